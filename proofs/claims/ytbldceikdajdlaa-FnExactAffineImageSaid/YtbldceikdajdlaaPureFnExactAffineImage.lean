/- For every p, measure, a and b, AffineImage of the program and of the reference return the same measure and code, leave the measure alone and return one of its own; no condition beyond the row's. -/
import Derived.Test.YtbldceikdajdlaaQDx78
namespace Go.Proofs.Ytbldceikdajdlaa.Pure
open Go.RowKit Go.Proofs.Ytbldceikdajdlaa.QD Go.Proofs.YtbldceikdajdlaaW.PrintWords Go.Proofs.YtbldceikdajdlaaW.PrintLast
set_option linter.unusedVariables false
set_option linter.unusedSimpArgs false
set_option linter.unusedSectionVars false

theorem wid {n : Int} (h0 : -9223372036854775808 ≤ n) (h1 : n ≤ 9223372036854775807) : wrap64 n = n := by unfold wrap64; omega
theorem Ev.val {α : Type} {o : Option α} {r : α} (h : o = some r) : Ev (fun _ => o) r := ⟨0, fun _ _ => h⟩
theorem Ev.bindv {α β : Type} {o : Option α} {f : Nat → α → Option β} {a : α} {r : β} (h : o = some a) (k : Ev (fun n => f n a) r) : Ev (fun n => o.bind (f n)) r := by
  subst h; exact k

theorem Ev.up {α : Type} {g : Nat → Option α} {r : α} (h : Ev (fun k => g (k + 1)) r) : Ev g r := Ev.step (f := fun k => g (k + 1)) (fun _ => rfl) h

def powW (p : Int) : Nat → Int → Int
  | 0, acc => acc
  | n + 1, acc => powW p n (wrap64 (acc * p))

def primeB (p : Int) : Bool := p == 2 || (p == 3 || (p == 5 || p == 7))
theorem prime_cases {p : Int} (h : primeB p = true) : p = 2 ∨ p = 3 ∨ p = 5 ∨ p = 7 := by
  simpa [primeB] using h
theorem prime_lo {p : Int} (h : primeB p = true) : 2 ≤ p := by rcases prime_cases h with h | h | h | h <;> omega
theorem ipow_pos {p : Int} (hp : 1 ≤ p) (n : Nat) : (1 : Int) ≤ p ^ n := by
  have := Int.pow_pos (n := p) (m := n) (by omega)
  omega
theorem ipow_mono {p : Int} (hp : 1 ≤ p) {m n : Nat} (h : m ≤ n) : p ^ m ≤ p ^ n := by
  obtain ⟨d, rfl⟩ : ∃ d, n = m + d := ⟨n - m, by omega⟩
  rw [Int.pow_add]
  have h1 := ipow_pos hp m
  have h2 := ipow_pos hp d
  have := Int.mul_le_mul_of_nonneg_left h2 (show 0 ≤ p ^ m by omega)
  rwa [Int.mul_one] at this
theorem powW_fit (p : Int) (hp : 1 ≤ p) (n : Nat) : ∀ (acc : Int), 0 ≤ acc → acc * p ^ n ≤ 9223372036854775807 → powW p n acc = acc * p ^ n := by
  induction n with
  | zero => intro acc _ _; simp [powW]
  | succ n ih =>
    intro acc h0 h
    have hpn : (1 : Int) ≤ p ^ n := ipow_pos hp n
    have e : acc * p ^ (n + 1) = acc * p * p ^ n := by rw [Int.pow_succ, Int.mul_comm (p ^ n) p, ← Int.mul_assoc]
    have h1 : 0 ≤ acc * p := Int.mul_nonneg h0 (by omega)
    have h2 : acc * p ≤ acc * p * p ^ n := by
      have := Int.mul_le_mul_of_nonneg_left hpn h1
      rwa [Int.mul_one] at this
    simp only [powW]
    rw [wid (by omega) (by omega), ih _ h1 (by omega), e]
theorem pow_le_top {p : Int} (h : primeB p = true) (n : Nat) (hn : n ≤ 22) : p ^ n ≤ 9223372036854775807 := by
  have hp := prime_lo h
  have h1 : p ^ n ≤ p ^ 22 := ipow_mono (by omega) hn
  have h2 : p ^ 22 ≤ 9223372036854775807 := by
    rcases prime_cases h with rfl | rfl | rfl | rfl <;> decide
  omega
theorem powW_prime {p : Int} (h : primeB p = true) (n : Nat) (hn : n ≤ 22) : powW p n 1 = p ^ n := by
  have hp := prime_lo h
  rw [powW_fit p (by omega) n 1 (by omega) (by rw [Int.one_mul]; exact pow_le_top h n hn), Int.one_mul]

def ballB (p L T D : Int) : Bool :=
  primeB p && (decide (-6 ≤ L ∧ L ≤ 6) && (decide (0 ≤ D ∧ D ≤ 6) && (if L + D ≤ 0 then T == 0 && D == 0 else decide (0 ≤ T ∧ T < p ^ (L + D).toNat) && (D == 0 || !(Int.tmod T p == 0)))))

def valF (p : Int) : Nat → Int → Nat
  | 0, _ => 0
  | f + 1, n => if n % p = 0 then valF p f (n / p) + 1 else 0
def val (p n : Int) : Nat := valF p n.natAbs n
theorem valF_spec {p : Int} (hp : 2 ≤ p) (f : Nat) : ∀ n : Int, n ≠ 0 → n.natAbs ≤ f → ∃ u, n = p ^ (valF p f n) * u ∧ ¬ p ∣ u := by
  induction f with
  | zero => intro n h0 hf; omega
  | succ f ih =>
    intro n h0 hf
    unfold valF
    by_cases h : n % p = 0
    · rw [if_pos h]
      obtain ⟨q, hq⟩ := Int.dvd_of_emod_eq_zero h
      have hq0 : q ≠ 0 := by intro e; subst e; simp at hq; exact h0 hq
      have hdiv : n / p = q := by rw [hq]; exact Int.mul_ediv_cancel_left q (by omega)
      rw [hdiv]
      have hlt : q.natAbs ≤ f := by
        have : n.natAbs = p.natAbs * q.natAbs := by rw [hq, Int.natAbs_mul]
        have h2 : 2 * q.natAbs ≤ p.natAbs * q.natAbs := Nat.mul_le_mul_right _ (by omega)
        omega
      obtain ⟨u, hu, hn⟩ := ih q hq0 hlt
      refine ⟨u, ?_, hn⟩
      conv => lhs; rw [hq, hu]
      rw [Int.pow_succ', Int.mul_assoc]
    · rw [if_neg h]
      exact ⟨n, by simp, fun hd => h (Int.emod_eq_zero_of_dvd hd)⟩
theorem val_spec {p n : Int} (hp : 2 ≤ p) (h : n ≠ 0) : ∃ u, n = p ^ (val p n) * u ∧ ¬ p ∣ u := valF_spec hp _ n h (Nat.le_refl _)
theorem pow_unique {p u u' : Int} (hp : 2 ≤ p) (hu : ¬ p ∣ u) (hu' : ¬ p ∣ u') : ∀ (v v' : Nat), p ^ v * u = p ^ v' * u' → v = v' := by
  have key : ∀ (v d : Nat) (x x' : Int), ¬ p ∣ x → p ^ v * x = p ^ (v + (d + 1)) * x' → False := by
    intro v d x x' hx h
    rw [Int.pow_add, Int.mul_assoc] at h
    have h2 : x = p ^ (d + 1) * x' := Int.eq_of_mul_eq_mul_left (Int.pow_ne_zero (by omega)) h
    apply hx
    rw [h2, Int.pow_succ', Int.mul_assoc]
    exact Int.dvd_mul_right _ _
  intro v v' h
  rcases Nat.lt_trichotomy v v' with h1 | h1 | h1
  · obtain ⟨d, rfl⟩ : ∃ d, v' = v + (d + 1) := ⟨v' - v - 1, by omega⟩
    exact (key v d u u' hu h).elim
  · exact h1
  · obtain ⟨d, rfl⟩ : ∃ d, v = v' + (d + 1) := ⟨v - v' - 1, by omega⟩
    exact (key v' d u' u hu' h.symm).elim
theorem val_eq {p n u : Int} {v : Nat} (hp : 2 ≤ p) (h : n = p ^ v * u) (hu : ¬ p ∣ u) : val p n = v := by
  have hn : n ≠ 0 := by
    intro e; rw [e] at h
    rcases Int.mul_eq_zero.1 h.symm with h | h
    · exact Int.pow_ne_zero (by omega) h
    · exact hu (by rw [h]; exact Int.dvd_zero p)
  obtain ⟨u', h', hu'⟩ := val_spec hp hn
  exact pow_unique hp hu' hu _ _ (h'.symm.trans h)
theorem val_pow_mul {p e : Int} (j : Nat) (hp : 2 ≤ p) (he : e ≠ 0) : val p (p ^ j * e) = j + val p e := by
  obtain ⟨u, h, hu⟩ := val_spec hp he
  refine val_eq hp (u := u) ?_ hu
  conv => lhs; rw [h]
  rw [Int.pow_add, Int.mul_assoc]
theorem val_dvd {p n : Int} (hp : 2 ≤ p) (h : n ≠ 0) (j : Nat) : p ^ j ∣ n ↔ j ≤ val p n := by
  obtain ⟨u, hu, hn⟩ := val_spec hp h
  constructor
  · rintro ⟨q, hq⟩
    rcases Nat.lt_or_ge (val p n) j with h1 | h1
    · exfalso
      obtain ⟨d, hd⟩ : ∃ d, j = val p n + (d + 1) := ⟨j - val p n - 1, by omega⟩
      have h2 : p ^ (val p n) * u = p ^ (val p n) * (p ^ (d + 1) * q) := by
        have e : n = p ^ (val p n) * (p ^ (d + 1) * q) := by rw [← Int.mul_assoc, ← Int.pow_add, ← hd]; exact hq
        exact hu.symm.trans e
      have h3 := Int.eq_of_mul_eq_mul_left (Int.pow_ne_zero (by omega)) h2
      apply hn
      rw [h3, Int.pow_succ', Int.mul_assoc]
      exact Int.dvd_mul_right _ _
    · exact h1
  · intro h1
    obtain ⟨d, hd⟩ : ∃ d, val p n = j + d := ⟨val p n - j, by omega⟩
    refine ⟨p ^ d * u, ?_⟩
    conv => lhs; rw [hu, hd, Int.pow_add, Int.mul_assoc]
theorem val_le_of_lt {p n : Int} (hp : 2 ≤ p) (h : n ≠ 0) (j : Nat) (hlt : n.natAbs < 2 ^ j) : val p n < j := by
  rcases Nat.lt_or_ge (val p n) j with h1 | h1
  · exact h1
  · exfalso
    obtain ⟨q, hq⟩ := (val_dvd hp h j).2 h1
    have hq0 : q ≠ 0 := by intro e; subst e; simp at hq; exact h hq
    have : n.natAbs = p.natAbs ^ j * q.natAbs := by rw [hq, Int.natAbs_mul, Int.natAbs_pow]
    have h2 : 2 ^ j ≤ p.natAbs ^ j := Nat.pow_le_pow_left (by omega) j
    have h3 : p.natAbs ^ j * 1 ≤ p.natAbs ^ j * q.natAbs := Nat.mul_le_mul_left _ (by omega)
    omega
theorem tdiv_bdv {x M : Int} (g : Int) (hx : -M ≤ x ∧ x ≤ M) : -M ≤ Int.tdiv x g ∧ Int.tdiv x g ≤ M := by
  have := Int.natAbs_tdiv_le_natAbs x g
  omega

theorem pow_13 {p : Int} (hp : primeB p = true) (n : Nat) (h : n ≤ 12) : p ^ n ≤ 13841287201 := by
  have hp2 := prime_lo hp
  have h1 : p ^ n ≤ p ^ 12 := ipow_mono (by omega) h
  have h2 : p ^ 12 ≤ 13841287201 := by rcases prime_cases hp with rfl | rfl | rfl | rfl <;> decide
  omega
theorem pow_6 {p : Int} (hp : primeB p = true) (n : Nat) (h : n ≤ 6) : p ^ n ≤ 117649 := by
  have hp2 := prime_lo hp
  have h1 : p ^ n ≤ p ^ 6 := ipow_mono (by omega) h
  have h2 : p ^ 6 ≤ 117649 := by rcases prime_cases hp with rfl | rfl | rfl | rfl <;> decide
  omega

def markOf (p T D : Int) : Int := T * p ^ (6 - D).toNat
def ofM (p L X : Int) : Int × Int × Int :=
  let x := X % p ^ (L + 6).toNat
  let dn : Int := if x = 0 then 0 else if (val p x : Int) < 6 then 6 - val p x else 0
  (L, x / p ^ (6 - dn).toNat, dn)
theorem ofM_of {p L X T D : Int} (hp : 2 ≤ p) (hx : X % p ^ (L + 6).toNat = T * p ^ (6 - D).toNat) (hD : 0 ≤ D ∧ D ≤ 6) (hu : D = 0 ∨ ¬ p ∣ T) : ofM p L X = (L, T, D) := by
  unfold ofM
  simp only [hx]
  have hpow : ∀ j : Nat, p ^ j ≠ 0 := fun j => Int.pow_ne_zero (by omega)
  by_cases h0 : T * p ^ (6 - D).toNat = 0
  · have hT : T = 0 := by
      rcases Int.mul_eq_zero.1 h0 with h | h
      · exact h
      · exact absurd h (hpow _)
    have hD0 : D = 0 := by
      rcases hu with h | h
      · exact h
      · exact absurd (by rw [hT]; exact Int.dvd_zero p) h
    subst hT; subst hD0
    simp
  · rw [if_neg h0]
    have hT : T ≠ 0 := by intro e; rw [e] at h0; simp at h0
    have hv : val p (T * p ^ (6 - D).toNat) = (6 - D).toNat + val p T := by rw [Int.mul_comm]; exact val_pow_mul _ hp hT
    have hdn : (if ((val p (T * p ^ (6 - D).toNat) : Nat) : Int) < 6 then 6 - ((val p (T * p ^ (6 - D).toNat) : Nat) : Int) else 0) = D := by
      rw [hv]
      rcases hu with h | h
      · rw [if_neg (by omega)]; exact h.symm
      · have : val p T = 0 := val_eq hp (u := T) (by simp) h
        rw [this]
        by_cases hd : D = 0
        · rw [if_neg (by omega)]; exact hd.symm
        · rw [if_pos (by omega)]; omega
    rw [hdn, Int.mul_ediv_cancel _ (hpow _)]
theorem ofM_mod (p L X : Int) : ofM p L (X % p ^ (L + 6).toNat) = ofM p L X := by unfold ofM; simp only [Int.emod_emod]
theorem ofM_back {p L X : Int} (hp : 2 ≤ p) : (ofM p L X).2.1 * p ^ (6 - (ofM p L X).2.2).toNat = X % p ^ (L + 6).toNat ∧ (0 ≤ (ofM p L X).2.2 ∧ (ofM p L X).2.2 ≤ 6) ∧ ((ofM p L X).2.2 = 0 ∨ ¬ p ∣ (ofM p L X).2.1) := by
  unfold ofM
  simp only
  generalize hx : X % p ^ (L + 6).toNat = x
  by_cases h0 : x = 0
  · rw [if_pos h0]; simp [h0]
  · rw [if_neg h0]
    obtain ⟨u, hu, hn⟩ := val_spec hp h0
    have hpow : ∀ j : Nat, p ^ j ≠ 0 := fun j => Int.pow_ne_zero (by omega)
    by_cases hv : ((val p x : Nat) : Int) < 6
    · rw [if_pos hv]
      have e : (6 - (6 - ((val p x : Nat) : Int))).toNat = val p x := by omega
      rw [e]
      have hq : x / p ^ val p x = u := by
        conv => lhs; lhs; rw [hu]
        exact Int.mul_ediv_cancel_left _ (hpow _)
      rw [hq]
      refine ⟨?_, by omega, .inr hn⟩
      rw [Int.mul_comm]; exact hu.symm
    · rw [if_neg hv]
      refine ⟨?_, by omega, .inl rfl⟩
      have hd : p ^ (6 - (0 : Int)).toNat ∣ x := (val_dvd hp h0 _).2 (by omega)
      exact Int.ediv_mul_cancel hd
theorem ofM_inj {p L X Y : Int} (hp : 2 ≤ p) : ofM p L X = ofM p L Y ↔ X % p ^ (L + 6).toNat = Y % p ^ (L + 6).toNat := by
  constructor
  · intro h
    rw [← (ofM_back (X := X) hp).1, ← (ofM_back (X := Y) hp).1, h]
  · intro h
    rw [← ofM_mod p L X, h, ofM_mod]
theorem ball_parts {p L T D : Int} (h : ballB p L T D = true) : primeB p = true ∧ (-6 ≤ L ∧ L ≤ 6) ∧ (0 ≤ D ∧ D ≤ 6) ∧ (L + D ≤ 0 → T = 0 ∧ D = 0) ∧ (0 < L + D → (0 ≤ T ∧ T < p ^ (L + D).toNat) ∧ (D = 0 ∨ ¬ p ∣ T)) := by
  unfold ballB at h
  simp only [Bool.and_eq_true, decide_eq_true_eq] at h
  obtain ⟨h1, h2, h3, h4⟩ := h
  refine ⟨h1, h2, h3, ?_, ?_⟩
  · intro hn; rw [if_pos hn] at h4; simpa using h4
  · intro hn
    rw [if_neg (by omega)] at h4
    simp only [Bool.and_eq_true, decide_eq_true_eq, Bool.or_eq_true, beq_iff_eq, Bool.not_eq_true', beq_eq_false_iff_ne] at h4
    refine ⟨h4.1, ?_⟩
    rcases h4.2 with h5 | h5
    · exact .inl h5
    · exact .inr (fun hd => h5 (Int.tmod_eq_zero_of_dvd hd))
theorem mark_lt {p L T D : Int} (h : ballB p L T D = true) : 0 ≤ markOf p T D ∧ markOf p T D < p ^ (L + 6).toNat := by
  obtain ⟨hp, hL, hD, h0, h1⟩ := ball_parts h
  have hp2 := prime_lo hp
  unfold markOf
  by_cases hn : L + D ≤ 0
  · rw [(h0 hn).1]
    have := ipow_pos (p := p) (by omega) (L + 6).toNat
    omega
  · obtain ⟨⟨a, b⟩, _⟩ := h1 (by omega)
    have hq := ipow_pos (p := p) (by omega) (6 - D).toNat
    refine ⟨Int.mul_nonneg a (by omega), ?_⟩
    have e : p ^ (L + 6).toNat = p ^ (L + D).toNat * p ^ (6 - D).toNat := by rw [← Int.pow_add]; congr 1; omega
    rw [e]
    exact Int.mul_lt_mul_of_pos_right b (by omega)
theorem mark_mod {p L T D : Int} (h : ballB p L T D = true) : markOf p T D % p ^ (L + 6).toNat = markOf p T D := Int.emod_eq_of_lt (mark_lt h).1 (mark_lt h).2
theorem ball_unit {p L T D : Int} (h : ballB p L T D = true) : D = 0 ∨ ¬ p ∣ T := by
  obtain ⟨_, _, _, h0, h1⟩ := ball_parts h
  by_cases hn : L + D ≤ 0
  · exact .inl (h0 hn).2
  · exact (h1 (by omega)).2
theorem ofM_mark {p L T D : Int} (h : ballB p L T D = true) : ofM p L (markOf p T D) = (L, T, D) :=
  ofM_of (prime_lo (ball_parts h).1) (mark_mod h) (ball_parts h).2.2.1 (ball_unit h)
theorem ofM_ball {p L X : Int} (hp : primeB p = true) (hL : -6 ≤ L ∧ L ≤ 6) : ballB p L (ofM p L X).2.1 (ofM p L X).2.2 = true := by
  have hp2 := prime_lo hp
  obtain ⟨hx, hD, hu⟩ := ofM_back (p := p) (L := L) (X := X) hp2
  have hpos := ipow_pos (p := p) (by omega) (L + 6).toNat
  have hx0 := Int.emod_nonneg X (show p ^ (L + 6).toNat ≠ 0 by omega)
  have hx1 := Int.emod_lt_of_pos X (show 0 < p ^ (L + 6).toNat by omega)
  generalize (ofM p L X).2.1 = T at *
  generalize (ofM p L X).2.2 = D at *
  have hq := ipow_pos (p := p) (by omega) (6 - D).toNat
  rw [← hx] at hx0 hx1
  have hT0 : 0 ≤ T := by
    rcases Int.lt_or_le T 0 with h | h
    · have := Int.mul_neg_of_neg_of_pos h (show 0 < p ^ (6 - D).toNat by omega); omega
    · exact h
  unfold ballB
  rw [hp, decide_eq_true hL, decide_eq_true hD, Bool.true_and, Bool.true_and, Bool.true_and]
  by_cases hn : L + D ≤ 0
  · rw [if_pos hn]
    have hT : T = 0 := by
      rcases Int.lt_or_eq_of_le hT0 with h | h
      · exfalso
        have e : p ^ (6 - D).toNat = p ^ (L + 6).toNat * p ^ (-(L + D)).toNat := by rw [← Int.pow_add]; congr 1; omega
        have h2 := ipow_pos (p := p) (by omega) (-(L + D)).toNat
        have h3 : p ^ (L + 6).toNat * 1 ≤ p ^ (L + 6).toNat * p ^ (-(L + D)).toNat := Int.mul_le_mul_of_nonneg_left (by omega) (by omega)
        have h4 : 1 * p ^ (6 - D).toNat ≤ T * p ^ (6 - D).toNat := Int.mul_le_mul_of_nonneg_right (by omega) (by omega)
        omega
      · exact h.symm
    have hD0 : D = 0 := by
      rcases hu with h | h
      · exact h
      · exact absurd (by rw [hT]; exact Int.dvd_zero p) h
    simp [hT, hD0]
  · rw [if_neg hn]
    have hlt : T < p ^ (L + D).toNat := by
      have e : p ^ (L + 6).toNat = p ^ (L + D).toNat * p ^ (6 - D).toNat := by rw [← Int.pow_add]; congr 1; omega
      rw [e] at hx1
      exact Int.lt_of_mul_lt_mul_right hx1 (by omega)
    rw [decide_eq_true (show 0 ≤ T ∧ T < p ^ (L + D).toNat from ⟨hT0, hlt⟩), Bool.true_and]
    rcases hu with h | h
    · simp [h]
    · have : (Int.tmod T p == 0) = false := beq_eq_false_iff_ne.2 (fun e => h (Int.dvd_of_tmod_eq_zero e))
      simp [this]
theorem ball_num {p L T D : Int} (h : ballB p L T D = true) : 0 ≤ T ∧ T ≤ 13841287201 := by
  obtain ⟨hp, hL, hD, h0, h1⟩ := ball_parts h
  have hp2 := prime_lo hp
  by_cases hn : L + D ≤ 0
  · rw [(h0 hn).1]; omega
  · have := (h1 (by omega)).1
    have := pow_13 hp (L + D).toNat (by omega)
    omega

theorem tmod_cast {a m : Int} (h : 0 ≤ a) : Int.tmod a m = a % m := Int.tmod_eq_emod_of_nonneg h
theorem tdiv_cast {a m : Int} (h : 0 ≤ a) : Int.tdiv a m = a / m := Int.tdiv_eq_ediv_of_nonneg h
theorem tmod_lt' {a m : Int} (hm : 0 < m) : -m < Int.tmod a m ∧ Int.tmod a m < m := by
  have h1 := Int.natAbs_tmod a m
  have h2 := Nat.mod_lt a.natAbs (show 0 < m.natAbs by omega)
  omega
theorem emod_mul_emod' (a b m : Int) : a % m * b % m = a * b % m := by rw [Int.mul_emod (a % m) b m, Int.emod_emod, ← Int.mul_emod]
theorem modW {a m : Int} (hm : 1 ≤ m) (hm2 : m ≤ 2305843009213693952) : Int.tmod (wrap64 (Int.tmod a m + m)) m = a % m := by
  obtain ⟨h1, h2⟩ := tmod_lt' (a := a) (show 0 < m by omega)
  rw [wid (by omega) (by omega), tmod_cast (by omega), Int.add_emod_right]
  have e := Int.tmod_add_mul_tdiv a m
  conv => rhs; rw [← e, Int.add_mul_emod_self_left]

theorem gcd_step (a b : Int) (h : b ≠ 0) : Int.gcd b (Int.tmod a b) = Int.gcd a b := by
  unfold Int.gcd
  rw [Int.natAbs_tmod, Nat.gcd_comm a.natAbs b.natAbs]
  conv => rhs; rw [Nat.gcd_rec]
  rw [Nat.gcd_comm]

def isInv (d m w : Int) : Prop := 0 ≤ w ∧ w < m ∧ ∃ k, w * d + k * m = 1
structure Eu (d m a b x y : Int) : Prop where
  e1 : ∃ k, a = x * d + k * m
  e2 : ∃ k, b = y * d + k * m
  e3 : 0 ≤ a
  e4 : 0 ≤ b
  e5 : Int.gcd a b = 1
  e6 : (0 ≤ x ∧ y ≤ 0 ∧ x * b - y * a = m) ∨ (x ≤ 0 ∧ 0 ≤ y ∧ y * a - x * b = m)
theorem eu_init {d m : Int} (hm : 1 ≤ m) (h : Int.gcd d m = 1) : Eu d m (d % m) m 1 0 := by
  refine ⟨⟨-(d / m), ?_⟩, ⟨1, by omega⟩, Int.emod_nonneg d (by omega), by omega, ?_, .inl ⟨by omega, by omega, by omega⟩⟩
  · have := Int.emod_add_mul_ediv d m
    rw [Int.neg_mul, Int.mul_comm (d / m)]; omega
  · have e : d % m = d + m * (-(d / m)) := by have := Int.emod_add_mul_ediv d m; rw [Int.mul_neg]; omega
    rw [e, Int.gcd_add_mul_left_left]; exact h
theorem eu_bd {d m a b x y : Int} (I : Eu d m a b x y) (hm : 1 ≤ m) : (b ≠ 0 → -m ≤ x ∧ x ≤ m) ∧ (a ≠ 0 → -m ≤ y ∧ y ≤ m) := by
  obtain ⟨e1, e2, e3, e4, e5, e6⟩ := I
  have s : ∀ z c : Int, 0 ≤ z → 1 ≤ c → z ≤ z * c := fun z c hz hc => by
    have := Int.mul_le_mul_of_nonneg_left hc hz; omega
  rcases e6 with ⟨h1, h2, h3⟩ | ⟨h1, h2, h3⟩
  · have p1 := Int.mul_nonneg h1 e4
    have p2 := Int.mul_nonneg (show 0 ≤ -y by omega) e3
    rw [Int.neg_mul] at p2
    refine ⟨fun hb => ?_, fun ha => ?_⟩
    · have := s x b h1 (by omega); omega
    · have := s (-y) a (by omega) (by omega); rw [Int.neg_mul] at this; omega
  · have p1 := Int.mul_nonneg h2 e3
    have p2 := Int.mul_nonneg (show 0 ≤ -x by omega) e4
    rw [Int.neg_mul] at p2
    refine ⟨fun hb => ?_, fun ha => ?_⟩
    · have := s (-x) b (by omega) (by omega); rw [Int.neg_mul] at this; omega
    · have := s y a h2 (by omega); omega
theorem eu_step {d m a b x y : Int} (I : Eu d m a b x y) (hb : b ≠ 0) : Eu d m b (a - a / b * b) y (x - a / b * y) := by
  obtain ⟨⟨k1, e1⟩, ⟨k2, e2⟩, e3, e4, e5, e6⟩ := I
  have hr : a - a / b * b = a % b := by have := Int.emod_add_mul_ediv a b; rw [Int.mul_comm] at this; omega
  have hq := Int.ediv_nonneg e3 e4
  refine ⟨⟨k2, e2⟩, ⟨k1 - a / b * k2, ?_⟩, e4, ?_, ?_, ?_⟩
  · generalize a / b = q at *; subst e1; subst e2; grind
  · rw [hr]; exact Int.emod_nonneg a hb
  · rw [hr, ← tmod_cast e3, gcd_step a b hb]; exact e5
  · generalize a / b = q at *
    rcases e6 with ⟨h1, h2, h3⟩ | ⟨h1, h2, h3⟩
    · have p := Int.mul_nonneg hq (show 0 ≤ -y by omega)
      rw [Int.mul_neg] at p
      exact .inr ⟨h2, by omega, by grind⟩
    · have p := Int.mul_nonneg hq h2
      exact .inl ⟨h2, by omega, by grind⟩
theorem eu_end {d m a x y : Int} (I : Eu d m a 0 x y) (hm : 1 ≤ m) : isInv d m (x % m) := by
  obtain ⟨⟨k1, e1⟩, e2, e3, e4, e5, e6⟩ := I
  have ha : a = 1 := by rw [Int.gcd_zero_right] at e5; omega
  refine ⟨Int.emod_nonneg x (by omega), Int.emod_lt_of_pos x (by omega), k1 + x / m * d, ?_⟩
  have := Int.emod_add_mul_ediv x m
  generalize x / m = q at *
  generalize x % m = r at *
  subst this
  grind
theorem eu_loop (g : Nat → Int → Int → Int → Int → Option Int) {d m : Int} (hm : 1 ≤ m) (hm2 : m ≤ 100000000000)
    (hstep : ∀ k a b x y, b ≠ 0 → g (k + 1) a b x y = g k b (wrap64 (a - wrap64 (wrap64 (Int.tdiv a b) * b))) y (wrap64 (x - wrap64 (wrap64 (Int.tdiv a b) * y))))
    (hend : ∀ k a x y, g (k + 1) a 0 x y = some (x % m)) (n : Nat) : ∀ a b x y, Eu d m a b x y → a ≤ m → b ≤ m → b < n → ∃ w, Ev (fun k => g k a b x y) w ∧ isInv d m w := by
  induction n with
  | zero => intro a b x y I h1 h2 h3; have := I.e4; omega
  | succ n ih =>
    intro a b x y I h1 h2 h3
    by_cases hb : b = 0
    · subst hb
      exact ⟨x % m, Ev.step (f := fun _ => some (x % m)) (fun k => hend k a x y) (Ev.now _), eu_end I hm⟩
    · have I' := eu_step I hb
      have hr : a - a / b * b = a % b := by have := Int.emod_add_mul_ediv a b; rw [Int.mul_comm] at this; omega
      have hlt := Int.emod_lt_of_pos a (show 0 < b by have := I.e4; omega)
      have hge := Int.emod_nonneg a hb
      have e3 := I.e3
      have e4 := I.e4
      obtain ⟨w, hw, hi⟩ := ih _ _ _ _ I' h2 (by omega) (by omega)
      refine ⟨w, ?_, hi⟩
      have bx := (eu_bd I hm).1 hb
      have by' := (eu_bd I' hm).2 hb
      have hq0 := Int.ediv_nonneg e3 e4
      have hq1 := Int.ediv_le_self b e3
      refine Ev.step (fun k => hstep k a b x y hb) ?_
      have c1 : wrap64 (Int.tdiv a b) = a / b := by rw [tdiv_cast e3]; exact wid (by omega) (by omega)
      have c2 : wrap64 (a / b * b) = a / b * b := wid (by omega) (by omega)
      have c3 : wrap64 (a / b * y) = a / b * y := wid (by omega) (by omega)
      rw [c1, c2, c3, wid (n := a - a / b * b) (by omega) (by omega), wid (n := x - a / b * y) (by omega) (by omega)]
      exact hw
theorem impl_isLevel_eq (L : Int) : impl_isLevel.f L = some (decide (-6 ≤ L ∧ L ≤ 6)) := by
  unfold impl_isLevel.f
  by_cases h : L ≥ -6
  · rw [if_pos h]; congr 1; exact decide_eq_decide.2 ⟨fun h2 => ⟨h, h2⟩, fun h2 => h2.2⟩
  · rw [if_neg h]; congr 1; exact (decide_eq_false (fun h2 => h h2.1)).symm

theorem impl_valuation_l (p : Int) (hp : 2 ≤ p) (v : Nat) : ∀ (n u acc : Int), n = p ^ v * u → ¬ p ∣ u → n ≠ 0 → -4611686018427387904 ≤ n → n ≤ 4611686018427387904 → 0 ≤ acc → acc + v ≤ 4611686018427387904 → Ev (fun k => impl_valuation.l0 k p n acc) (acc + v) := by
  induction v with
  | zero =>
    intro n u acc h hu h0 h1 h2 h3 h4
    refine Ev.step (f := fun _ => some acc) (fun k => ?_) (by simp; exact Ev.now _)
    simp only [impl_valuation.l0]
    rw [if_neg (by omega), if_neg]
    intro e
    rw [h] at e
    exact hu (by simpa using Int.dvd_of_tmod_eq_zero e)
  | succ v ih =>
    intro n u acc h hu h0 h1 h2 h3 h4
    have hn : n = p * (p ^ v * u) := by rw [h, Int.pow_succ', Int.mul_assoc]
    have hm : Int.tmod n p = 0 := by rw [hn]; exact Int.mul_tmod_right p _
    have hd : Int.tdiv n p = p ^ v * u := by rw [hn]; exact Int.mul_tdiv_cancel_left _ (by omega)
    have hb := tdiv_bdv p (show -4611686018427387904 ≤ n ∧ n ≤ 4611686018427387904 from ⟨h1, h2⟩)
    have hne : p ^ v * u ≠ 0 := by intro e; rw [e] at hn; simp at hn; exact h0 hn
    refine Ev.step (f := fun k => impl_valuation.l0 k p (p ^ v * u) (acc + 1)) (fun k => ?_) ?_
    · simp only [impl_valuation.l0]
      rw [if_neg (by omega), if_pos hm, hd]
      rw [hd] at hb
      rw [wid (n := p ^ v * u) (by omega) (by omega), wid (n := acc + 1) (by omega) (by omega)]
    · rw [hd] at hb
      have := ih (p ^ v * u) u (acc + 1) rfl hu hne hb.1 hb.2 (by omega) (by omega)
      rw [show acc + ((v + 1 : Nat) : Int) = acc + 1 + (v : Int) from by omega]
      exact this
def valW (p n : Int) : Int := if n = 0 then 1000 else val p n
theorem impl_valuation_ev {p n : Int} (hp : 2 ≤ p) (h1 : -4611686018427387904 ≤ n) (h2 : n ≤ 4611686018427387904) : Ev (fun k => impl_valuation.f k p n) (valW p n) := by
  unfold impl_valuation.f valW
  by_cases h0 : n = 0
  · simp only [if_pos h0]; exact Ev.now _
  · simp only [if_neg h0]
    obtain ⟨u, h, hu⟩ := val_spec hp h0
    have hv := val_le_of_lt hp h0 63 (by omega)
    have := impl_valuation_l p hp (val p n) n u 0 h hu h0 h1 h2 (by omega) (by omega)
    rw [Int.zero_add] at this
    exact this

theorem impl_power_l (p N : Int) (hN : N ≤ 9223372036854775807) (n : Nat) : ∀ (acc i : Int), 0 ≤ i → (i + n = N ∨ (n = 0 ∧ N ≤ i)) → Ev (fun k => impl_power.l0 k p acc N i) (powW p n acc) := by
  induction n with
  | zero =>
    intro acc i hi hx
    exact Ev.step (f := fun _ => some acc) (fun k => by simp only [impl_power.l0]; rw [if_neg (by omega)]) (Ev.now _)
  | succ n ih =>
    intro acc i hi hx
    exact Ev.step (f := fun k => impl_power.l0 k p (wrap64 (acc * p)) N (i + 1)) (fun k => by
      simp only [impl_power.l0]; rw [if_pos (by omega), show wrap64 (i + 1) = i + 1 from wid (by omega) (by omega)]) (ih _ (i + 1) (by omega) (by omega))
theorem impl_power_ev (p x : Int) (h : x ≤ 9223372036854775807) : Ev (fun k => impl_power.f k p x) (powW p x.toNat 1) := by
  refine Ev.congr (f := fun k => impl_power.l0 k p 1 x 0) (fun k => rfl) (impl_power_l p x h x.toNat 1 0 (by omega) (by omega))

theorem impl_mark_ev {p L T D : Int} (h : ballB p L T D = true) : Ev (fun k => impl_mark.f k p L T D) (markOf p T D) := by
  obtain ⟨hp, hL, hD, _, _⟩ := ball_parts h
  have hp2 := prime_lo hp
  obtain ⟨m0, m1⟩ := mark_lt h
  have m2 := pow_13 hp (L + 6).toNat (by omega)
  unfold impl_mark.f
  rw [wid (n := 6 - D) (by omega) (by omega)]
  refine Ev.bind (impl_power_ev p _ (by omega)) ?_
  rw [powW_prime hp _ (by omega), show T * p ^ (6 - D).toNat = markOf p T D from rfl, wid (by omega) (by omega)]
  exact Ev.now _

theorem impl_mod_eq {a m : Int} (hm : 1 ≤ m) (hm2 : m ≤ 2305843009213693952) : impl_mod.f a m = some (a % m) := by
  unfold impl_mod.f
  rw [if_neg (by omega), modW hm hm2]
theorem impl_ofMark_ev {p L x : Int} (hp : primeB p = true) (hL : -6 ≤ L ∧ L ≤ 6) : Ev (fun k => impl_ofMark.f k p L x) ((ofM p L x).1, (ofM p L x).2.1, (ofM p L x).2.2, true) := by
  have hp2 := prime_lo hp
  unfold impl_ofMark.f
  refine Ev.bindv (impl_isLevel_eq L) ?_
  rw [decide_eq_true hL]
  simp only [if_true]
  rw [wid (n := L + 6) (by omega) (by omega)]
  refine Ev.bind (impl_power_ev p (L + 6) (by omega)) ?_
  rw [powW_prime hp _ (by omega)]
  have m1 := ipow_pos (p := p) (by omega) (L + 6).toNat
  have m2 := pow_13 hp (L + 6).toNat (by omega)
  refine Ev.bindv (impl_mod_eq m1 (by omega)) ?_
  have x0 := Int.emod_nonneg x (show p ^ (L + 6).toNat ≠ 0 by omega)
  have x1 := Int.emod_lt_of_pos x (show 0 < p ^ (L + 6).toNat by omega)
  refine Ev.bind (impl_valuation_ev hp2 (by omega) (by omega)) ?_
  have hv : valW p (x % p ^ (L + 6).toNat) ≤ 1000 ∧ 0 ≤ valW p (x % p ^ (L + 6).toNat) := by
    unfold valW
    split
    · omega
    · rename_i h0
      have := val_le_of_lt hp2 h0 62 (by omega)
      omega
  have hdn : mx (wrap64 (6 - valW p (x % p ^ (L + 6).toNat))) 0 = (ofM p L x).2.2 := by
    rw [wid (n := 6 - valW p (x % p ^ (L + 6).toNat)) (by omega) (by omega)]
    unfold ofM valW mx
    simp only
    by_cases h0 : x % p ^ (L + 6).toNat = 0
    · rw [if_pos h0, if_pos h0]; rfl
    · rw [if_neg h0, if_neg h0]
      by_cases h6 : ((val p (x % p ^ (L + 6).toNat) : Nat) : Int) < 6
      · rw [if_neg (by omega), if_pos h6]
      · rw [if_neg h6]; split <;> omega
  rw [hdn]
  obtain ⟨_, hD, _⟩ := ofM_back (p := p) (L := L) (X := x) hp2
  rw [wid (n := 6 - (ofM p L x).2.2) (by omega) (by omega)]
  refine Ev.bind (impl_power_ev p _ (by omega)) ?_
  rw [powW_prime hp _ (by omega)]
  have q1 := ipow_pos (p := p) (by omega) (6 - (ofM p L x).2.2).toNat
  simp only [if_neg (show ¬ p ^ (6 - (ofM p L x).2.2).toNat = 0 by omega)]
  rw [tdiv_cast x0]
  have hT : x % p ^ (L + 6).toNat / p ^ (6 - (ofM p L x).2.2).toNat = (ofM p L x).2.1 := rfl
  have d0 := Int.ediv_nonneg x0 (show 0 ≤ p ^ (6 - (ofM p L x).2.2).toNat by omega)
  have d1 := Int.ediv_le_self (p ^ (6 - (ofM p L x).2.2).toNat) x0
  rw [wid (n := x % p ^ (L + 6).toNat / p ^ (6 - (ofM p L x).2.2).toNat) (by omega) (by omega), hT]
  exact Ev.now _
theorem impl_inverse_ev {d m : Int} (hm : 1 ≤ m) (hm2 : m ≤ 100000000000) (hg : Int.gcd d m = 1) : ∃ w, Ev (fun k => impl_inverse.f k d m) w ∧ isInv d m w := by
  have m1 := Int.emod_lt_of_pos d (show 0 < m by omega)
  obtain ⟨w, h, i⟩ := eu_loop (fun k a b x y => impl_inverse.l0 k m a b x y) (d := d) hm hm2
    (fun k a b x y hb => by simp only [impl_inverse.l0]; rw [if_neg hb])
    (fun k a x y => by simp only [impl_inverse.l0, if_true]; rw [impl_mod_eq hm (by omega)]; rfl)
    (m.toNat + 1) _ _ _ _ (eu_init hm hg) (by omega) (by omega) (by omega)
  refine ⟨w, ?_, i⟩
  unfold impl_inverse.f
  exact Ev.bindv (impl_mod_eq hm (by omega)) h
theorem spec_l01InvMod_ev {d m : Int} (hm : 1 ≤ m) (hm2 : m ≤ 100000000000) (hg : Int.gcd d m = 1) : ∃ w, Ev (fun k => spec_l01InvMod.f k d m) w ∧ isInv d m w := by
  have m1 := Int.emod_lt_of_pos d (show 0 < m by omega)
  obtain ⟨w, h, i⟩ := eu_loop (fun k a b x y => spec_l01InvMod.l0 k m a b x y) (d := d) hm hm2
    (fun k a b x y hb => by simp only [spec_l01InvMod.l0]; rw [if_neg hb])
    (fun k a x y => by simp only [spec_l01InvMod.l0, if_true]; rw [if_neg (by omega), modW hm (by omega)])
    (m.toNat + 1) _ _ _ _ (eu_init hm hg) (by omega) (by omega) (by omega)
  refine ⟨w, ?_, i⟩
  refine Ev.congr (f := fun k => spec_l01InvMod.l0 k m (d % m) m 1 0) (fun k => ?_) h
  unfold spec_l01InvMod.f
  rw [if_neg (by omega), modW hm (by omega)]
theorem pd_fin : ∀ q : Fin 8, (q.val = 2 ∨ q.val = 3 ∨ q.val = 5 ∨ q.val = 7) → ∀ g : Fin 8, g.val ∣ q.val → g.val = 1 ∨ g.val = q.val := by decide
theorem gcd_unit {p u : Int} (hp : primeB p = true) (hu : ¬ p ∣ u) (K : Nat) : Int.gcd u (p ^ K) = 1 := by
  obtain ⟨q, rfl⟩ : ∃ q : Nat, p = (q : Int) := ⟨p.toNat, by have := prime_lo hp; omega⟩
  have hq : q = 2 ∨ q = 3 ∨ q = 5 ∨ q = 7 := by have := prime_cases hp; omega
  have h1 : Nat.Coprime u.natAbs q := by
    have hd := Nat.gcd_dvd_right u.natAbs q
    have hle := Nat.le_of_dvd (by omega) hd
    have := pd_fin ⟨q, by omega⟩ hq ⟨Nat.gcd u.natAbs q, by omega⟩ hd
    rcases this with h | h
    · exact h
    · exfalso
      apply hu
      have h2 : Nat.gcd u.natAbs q ∣ u.natAbs := Nat.gcd_dvd_left _ _
      have h' : Nat.gcd u.natAbs q = q := h
      rw [h'] at h2
      exact Int.natAbs_dvd_natAbs.1 (by rw [Int.natAbs_natCast]; exact h2)
  have h2 := Nat.Coprime.pow_right K h1
  show Nat.gcd u.natAbs ((q : Int) ^ K).natAbs = 1
  rw [Int.natAbs_pow]
  exact h2

structure Kn (y1 y0 u v : Int) : Prop where
  k1 : 2147483648 ≤ y1
  k2 : y1 < 4294967296
  k3 : 0 ≤ y0
  k4 : y0 < 4294967296
  k5 : 0 ≤ u
  k6 : u < y1 * 4294967296 + y0
  k7 : 0 ≤ v
  k8 : v < 4294967296
def knQ (y1 y0 u v : Int) : Int := (u * 4294967296 + v) / (y1 * 4294967296 + y0)
theorem knQ_spec {y1 y0 u v : Int} (K : Kn y1 y0 u v) : knQ y1 y0 u v * y1 * 4294967296 + knQ y1 y0 u v * y0 ≤ u * 4294967296 + v ∧ u * 4294967296 + v < knQ y1 y0 u v * y1 * 4294967296 + knQ y1 y0 u v * y0 + (y1 * 4294967296 + y0) ∧ 0 ≤ knQ y1 y0 u v ∧ knQ y1 y0 u v < 4294967296 := by
  obtain ⟨k1, k2, k3, k4, k5, k6, k7, k8⟩ := K
  have h := Int.emod_add_mul_ediv (u * 4294967296 + v) (y1 * 4294967296 + y0)
  have h0 := Int.emod_nonneg (u * 4294967296 + v) (show y1 * 4294967296 + y0 ≠ 0 by omega)
  have h1 := Int.emod_lt_of_pos (u * 4294967296 + v) (show 0 < y1 * 4294967296 + y0 by omega)
  have h2 := Int.ediv_nonneg (show 0 ≤ u * 4294967296 + v by omega) (show 0 ≤ y1 * 4294967296 + y0 by omega)
  have h3 : (u * 4294967296 + v) / (y1 * 4294967296 + y0) < 4294967296 := Int.ediv_lt_of_lt_mul (by omega) (by omega)
  unfold knQ
  generalize (u * 4294967296 + v) / (y1 * 4294967296 + y0) = Q at *
  have e : (y1 * 4294967296 + y0) * Q = Q * y1 * 4294967296 + Q * y0 := by rw [Int.mul_comm, Int.mul_add, ← Int.mul_assoc]
  rw [e] at h
  refine ⟨by omega, by omega, h2, h3⟩
structure KnI (y1 y0 u v q r : Int) : Prop where
  i1 : q * y1 + r = u
  i2 : 0 ≤ r
  i3 : r < 4294967296
  i4 : knQ y1 y0 u v ≤ q
  i5 : q ≤ 4294967297
theorem kn_mul {y1 y0 a b : Int} (h : a ≤ b) (h1 : 0 ≤ y1) (h0 : 0 ≤ y0) : a * y1 ≤ b * y1 ∧ a * y0 ≤ b * y0 := ⟨Int.mul_le_mul_of_nonneg_right h h1, Int.mul_le_mul_of_nonneg_right h h0⟩
theorem kn_init {y1 y0 u v : Int} (K : Kn y1 y0 u v) : KnI y1 y0 u v (u / y1) (u - u / y1 * y1) := by
  obtain ⟨q1, q2, q3, q4⟩ := knQ_spec K
  obtain ⟨k1, k2, k3, k4, k5, k6, k7, k8⟩ := K
  have h := Int.emod_add_mul_ediv u y1
  have h0 := Int.emod_nonneg u (show y1 ≠ 0 by omega)
  have h1 := Int.emod_lt_of_pos u (show 0 < y1 by omega)
  have hz := Int.mul_nonneg q3 k3
  have e : y1 * (u / y1) = u / y1 * y1 := Int.mul_comm _ _
  rw [e] at h
  refine ⟨by omega, by omega, by omega, Int.le_ediv_of_mul_le (by omega) (by omega), ?_⟩
  have : u / y1 < 4294967298 := Int.ediv_lt_of_lt_mul (by omega) (by omega)
  omega
theorem kn_stop {y1 y0 u v q r : Int} (K : Kn y1 y0 u v) (I : KnI y1 y0 u v q r) (hc : q * y0 ≤ 4294967296 * r + v) : q = knQ y1 y0 u v := by
  obtain ⟨q1, q2, q3, q4⟩ := knQ_spec K
  obtain ⟨k1, k2, k3, k4, k5, k6, k7, k8⟩ := K
  obtain ⟨i1, i2, i3, i4, i5⟩ := I
  rcases Int.lt_or_le (knQ y1 y0 u v) q with h | h
  · exfalso
    obtain ⟨m1, m2⟩ := kn_mul (show knQ y1 y0 u v + 1 ≤ q by omega) (show 0 ≤ y1 by omega) k3
    rw [Int.add_mul, Int.one_mul] at m1 m2
    omega
  · omega
theorem kn_down {y1 y0 u v q r : Int} (K : Kn y1 y0 u v) (I : KnI y1 y0 u v q r) (hc : q ≥ 4294967296 ∨ q * y0 > 4294967296 * r + v) : knQ y1 y0 u v ≤ q - 1 ∧ (q - 1) * y1 + (r + y1) = u := by
  obtain ⟨q1, q2, q3, q4⟩ := knQ_spec K
  obtain ⟨k1, k2, k3, k4, k5, k6, k7, k8⟩ := K
  obtain ⟨i1, i2, i3, i4, i5⟩ := I
  rw [Int.sub_mul, Int.one_mul]
  refine ⟨?_, by omega⟩
  rcases hc with hc | hc
  · omega
  · rcases Int.lt_or_le (knQ y1 y0 u v) q with h | h
    · omega
    · exfalso
      obtain ⟨m1, m2⟩ := kn_mul h (show 0 ≤ y1 by omega) k3
      omega
theorem kn_break {y1 y0 u v q r : Int} (K : Kn y1 y0 u v) (I : KnI y1 y0 u v q r) (hc : q ≥ 4294967296 ∨ q * y0 > 4294967296 * r + v) (hr : r + y1 ≥ 4294967296) : q - 1 = knQ y1 y0 u v := by
  obtain ⟨d1, d2⟩ := kn_down K I hc
  obtain ⟨q1, q2, q3, q4⟩ := knQ_spec K
  obtain ⟨k1, k2, k3, k4, k5, k6, k7, k8⟩ := K
  obtain ⟨i1, i2, i3, i4, i5⟩ := I
  obtain ⟨-, m2⟩ := kn_mul (show q - 1 ≤ 4294967296 by omega) (show 0 ≤ y1 by omega) k3
  rcases Int.lt_or_le (knQ y1 y0 u v) (q - 1) with h | h
  · exfalso
    obtain ⟨n1, n2⟩ := kn_mul (show knQ y1 y0 u v + 1 ≤ q - 1 by omega) (show 0 ≤ y1 by omega) k3
    rw [Int.add_mul, Int.one_mul] at n1 n2
    omega
  · omega
theorem kn_next {y1 y0 u v q r : Int} (K : Kn y1 y0 u v) (I : KnI y1 y0 u v q r) (hc : q ≥ 4294967296 ∨ q * y0 > 4294967296 * r + v) (hr : ¬ r + y1 ≥ 4294967296) : KnI y1 y0 u v (q - 1) (r + y1) := by
  obtain ⟨d1, d2⟩ := kn_down K I hc
  obtain ⟨k1, k2, k3, k4, k5, k6, k7, k8⟩ := K
  obtain ⟨i1, i2, i3, i4, i5⟩ := I
  exact ⟨d2, by omega, by omega, d1, by omega⟩
theorem kn_size {y1 y0 u v q r : Int} (K : Kn y1 y0 u v) (I : KnI y1 y0 u v q r) : 0 ≤ q ∧ 0 ≤ 4294967296 * r + v ∧ 4294967296 * r + v < 18446744073709551616 ∧ 0 ≤ q * y0 ∧ (q < 4294967296 → q * y0 < 18446744073709551616) := by
  obtain ⟨q1, q2, q3, q4⟩ := knQ_spec K
  obtain ⟨k1, k2, k3, k4, k5, k6, k7, k8⟩ := K
  obtain ⟨i1, i2, i3, i4, i5⟩ := I
  refine ⟨by omega, by omega, by omega, Int.mul_nonneg (by omega) k3, fun h => ?_⟩
  have := Int.mul_le_mul_of_nonneg_right (show q ≤ 4294967296 by omega) k3
  omega
theorem kn_rem {y1 y0 u v : Int} : u * 4294967296 + v - knQ y1 y0 u v * (y1 * 4294967296 + y0) = (u * 4294967296 + v) % (y1 * 4294967296 + y0) := by
  have h := Int.emod_add_mul_ediv (u * 4294967296 + v) (y1 * 4294967296 + y0)
  unfold knQ
  rw [Int.mul_comm (y1 * 4294967296 + y0)] at h
  omega

theorem wu {n : Int} (h0 : 0 ≤ n) (h1 : n < 18446744073709551616) : IntKind.u64.wrap n = n := by rw [IntKind.wrap_u64]; omega
theorem len8_fin : ∀ n : Fin 256, n.val ≠ 0 → ∃ l : Fin 9, bt (⟨#[0, 1, 2, 2, 3, 3, 3, 3, 4, 4, 4, 4, 4, 4, 4, 4, 5, 5, 5, 5, 5, 5, 5, 5, 5, 5, 5, 5, 5, 5, 5, 5, 6, 6, 6, 6, 6, 6, 6, 6, 6, 6, 6, 6, 6, 6, 6, 6, 6, 6, 6, 6, 6, 6, 6, 6, 6, 6, 6, 6, 6, 6, 6, 6, 7, 7, 7, 7, 7, 7, 7, 7, 7, 7, 7, 7, 7, 7, 7, 7, 7, 7, 7, 7, 7, 7, 7, 7, 7, 7, 7, 7, 7, 7, 7, 7, 7, 7, 7, 7, 7, 7, 7, 7, 7, 7, 7, 7, 7, 7, 7, 7, 7, 7, 7, 7, 7, 7, 7, 7, 7, 7, 7, 7, 7, 7, 7, 7, 8, 8, 8, 8, 8, 8, 8, 8, 8, 8, 8, 8, 8, 8, 8, 8, 8, 8, 8, 8, 8, 8, 8, 8, 8, 8, 8, 8, 8, 8, 8, 8, 8, 8, 8, 8, 8, 8, 8, 8, 8, 8, 8, 8, 8, 8, 8, 8, 8, 8, 8, 8, 8, 8, 8, 8, 8, 8, 8, 8, 8, 8, 8, 8, 8, 8, 8, 8, 8, 8, 8, 8, 8, 8, 8, 8, 8, 8, 8, 8, 8, 8, 8, 8, 8, 8, 8, 8, 8, 8, 8, 8, 8, 8, 8, 8, 8, 8, 8, 8, 8, 8, 8, 8, 8, 8, 8, 8, 8, 8, 8, 8, 8, 8, 8, 8, 8, 8, 8, 8, 8, 8, 8, 8, 8, 8, 8, 8]⟩ : ByteArray) ((n.val : Nat) : Int) = (l.val : Int) ∧ 1 ≤ l.val ∧ 2 ^ (l.val - 1) ≤ n.val ∧ n.val < 2 ^ l.val := by decide +kernel
theorem len8_t (n : Int) (h0 : 1 ≤ n) (h1 : n < 256) : ∃ l : Nat, bt (⟨#[0, 1, 2, 2, 3, 3, 3, 3, 4, 4, 4, 4, 4, 4, 4, 4, 5, 5, 5, 5, 5, 5, 5, 5, 5, 5, 5, 5, 5, 5, 5, 5, 6, 6, 6, 6, 6, 6, 6, 6, 6, 6, 6, 6, 6, 6, 6, 6, 6, 6, 6, 6, 6, 6, 6, 6, 6, 6, 6, 6, 6, 6, 6, 6, 7, 7, 7, 7, 7, 7, 7, 7, 7, 7, 7, 7, 7, 7, 7, 7, 7, 7, 7, 7, 7, 7, 7, 7, 7, 7, 7, 7, 7, 7, 7, 7, 7, 7, 7, 7, 7, 7, 7, 7, 7, 7, 7, 7, 7, 7, 7, 7, 7, 7, 7, 7, 7, 7, 7, 7, 7, 7, 7, 7, 7, 7, 7, 7, 8, 8, 8, 8, 8, 8, 8, 8, 8, 8, 8, 8, 8, 8, 8, 8, 8, 8, 8, 8, 8, 8, 8, 8, 8, 8, 8, 8, 8, 8, 8, 8, 8, 8, 8, 8, 8, 8, 8, 8, 8, 8, 8, 8, 8, 8, 8, 8, 8, 8, 8, 8, 8, 8, 8, 8, 8, 8, 8, 8, 8, 8, 8, 8, 8, 8, 8, 8, 8, 8, 8, 8, 8, 8, 8, 8, 8, 8, 8, 8, 8, 8, 8, 8, 8, 8, 8, 8, 8, 8, 8, 8, 8, 8, 8, 8, 8, 8, 8, 8, 8, 8, 8, 8, 8, 8, 8, 8, 8, 8, 8, 8, 8, 8, 8, 8, 8, 8, 8, 8, 8, 8, 8, 8, 8, 8, 8, 8]⟩ : ByteArray) n = (l : Int) ∧ 1 ≤ l ∧ l ≤ 8 ∧ (2 : Int) ^ (l - 1) ≤ n ∧ n < (2 : Int) ^ l := by
  obtain ⟨m, rfl⟩ : ∃ m : Nat, n = (m : Int) := ⟨n.toNat, by omega⟩
  obtain ⟨l, hl, a, b, c⟩ := len8_fin ⟨m, by omega⟩ (by show m ≠ 0; omega)
  refine ⟨l.val, hl, a, by omega, ?_, ?_⟩
  · have : ((2 ^ (l.val - 1) : Nat) : Int) ≤ (m : Int) := by exact_mod_cast b
    rwa [Int.natCast_pow] at this
  · have : (m : Int) < ((2 ^ l.val : Nat) : Int) := by exact_mod_cast c
    rwa [Int.natCast_pow] at this
def isLen (y : Int) (L : Nat) : Prop := 1 ≤ L ∧ (2 : Int) ^ (L - 1) ≤ y ∧ y < (2 : Int) ^ L
theorem len_up {y C : Int} (c : Nat) (hC : C = 2 ^ c) {l : Nat} (h : isLen (y / C) l) : isLen y (c + l) := by
  obtain ⟨h1, h2, h3⟩ := h
  have hc : (0 : Int) < 2 ^ c := Int.pow_pos (by omega)
  subst hC
  refine ⟨by omega, ?_, ?_⟩
  · rw [show c + l - 1 = (l - 1) + c from by omega, Int.pow_add]
    exact Int.mul_le_of_le_ediv hc h2
  · rw [Nat.add_comm, Int.pow_add]
    exact Int.lt_mul_of_ediv_lt hc h3
theorem Len64_j {x c : Int} (h0 : 1 ≤ x) (h1 : x < 4294967296) (hc : 0 ≤ c ∧ c ≤ 32) : ∃ l : Nat, Ev (fun k => bits_Len64.j0 k x c) (c + l) ∧ isLen x l ∧ l ≤ 32 := by
  by_cases a : x ≥ 65536
  · by_cases b : x / 65536 ≥ 256
    · obtain ⟨l, hl, p1, p2, p3, p4⟩ := len8_t (x / 65536 / 256 % 256) (by omega) (by omega)
      rw [Int.emod_eq_of_lt (show 0 ≤ x / 65536 / 256 by omega) (by omega)] at p3 p4
      refine ⟨16 + (8 + l), ?_, len_up 16 rfl (len_up 8 rfl ⟨p1, p3, p4⟩), by omega⟩
      refine Ev.step (f := fun _ => some (c + ((16 + (8 + l) : Nat) : Int))) (fun k => ?_) (Ev.now _)
      rw [bits_Len64.j0.eq_2]
      rw [if_pos a, if_pos b, if_pos (by omega), if_pos (by omega), hl, wid (n := (l : Int)) (by omega) (by omega), wid (n := c + 16) (by omega) (by omega), wid (n := c + 16 + 8) (by omega) (by omega), wid (n := c + 16 + 8 + (l : Int)) (by omega) (by omega)]
      exact congrArg some (by clear hl; omega)
    · obtain ⟨l, hl, p1, p2, p3, p4⟩ := len8_t (x / 65536 % 256) (by omega) (by omega)
      rw [Int.emod_eq_of_lt (show 0 ≤ x / 65536 by omega) (by omega)] at p3 p4
      refine ⟨16 + l, ?_, len_up 16 rfl ⟨p1, p3, p4⟩, by omega⟩
      refine Ev.step (f := fun _ => some (c + ((16 + l : Nat) : Int))) (fun k => ?_) (Ev.now _)
      rw [bits_Len64.j0.eq_2]
      rw [if_pos a, if_neg b, if_pos (by omega), if_pos (by omega), hl, wid (n := (l : Int)) (by omega) (by omega), wid (n := c + 16) (by omega) (by omega), wid (n := c + 16 + (l : Int)) (by omega) (by omega)]
      exact congrArg some (by clear hl; omega)
  · by_cases b : x ≥ 256
    · obtain ⟨l, hl, p1, p2, p3, p4⟩ := len8_t (x / 256 % 256) (by omega) (by omega)
      rw [Int.emod_eq_of_lt (show 0 ≤ x / 256 by omega) (by omega)] at p3 p4
      refine ⟨8 + l, ?_, len_up 8 rfl ⟨p1, p3, p4⟩, by omega⟩
      refine Ev.step (f := fun _ => some (c + ((8 + l : Nat) : Int))) (fun k => ?_) (Ev.now _)
      rw [bits_Len64.j0.eq_2]
      rw [if_neg a, if_pos b, if_pos (by omega), if_pos (by omega), hl, wid (n := (l : Int)) (by omega) (by omega), wid (n := c + 8) (by omega) (by omega), wid (n := c + 8 + (l : Int)) (by omega) (by omega)]
      exact congrArg some (by clear hl; omega)
    · obtain ⟨l, hl, p1, p2, p3, p4⟩ := len8_t (x % 256) (by omega) (by omega)
      rw [Int.emod_eq_of_lt (show 0 ≤ x by omega) (by omega)] at p3 p4
      refine ⟨l, ?_, ⟨p1, p3, p4⟩, by omega⟩
      refine Ev.step (f := fun _ => some (c + (l : Int))) (fun k => ?_) (Ev.now _)
      rw [bits_Len64.j0.eq_2]
      rw [if_neg a, if_neg b, if_pos (by omega), if_pos (by omega), hl, wid (n := (l : Int)) (by omega) (by omega), wid (n := c + (l : Int)) (by omega) (by omega)]
theorem Len64_ev {y : Int} (h0 : 1 ≤ y) (h1 : y < 18446744073709551616) : ∃ L : Nat, Ev (fun k => bits_Len64.f k y) (L : Int) ∧ isLen y L ∧ L ≤ 64 := by
  unfold bits_Len64.f
  by_cases a : y ≥ 4294967296
  · obtain ⟨l, e, i, b⟩ := Len64_j (x := y / 4294967296) (c := 32) (by omega) (by omega) (by omega)
    refine ⟨32 + l, ?_, len_up 32 rfl i, by omega⟩
    simp only [if_pos a]
    exact e
  · obtain ⟨l, e, i, b⟩ := Len64_j (x := y) (c := 0) (by omega) (by omega) (by omega)
    refine ⟨l, ?_, i, by omega⟩
    simp only [if_neg a]
    rw [Int.zero_add] at e
    exact e
theorem LeadingZeros64_ev {y : Int} (h0 : 1 ≤ y) (h1 : y < 18446744073709551616) : ∃ s : Nat, Ev (fun k => bits_LeadingZeros64.f k y) (s : Int) ∧ s ≤ 63 ∧ 9223372036854775808 ≤ y * 2 ^ s ∧ y * 2 ^ s < 18446744073709551616 := by
  obtain ⟨L, e, ⟨i1, i2, i3⟩, b⟩ := Len64_ev h0 h1
  have hs : (0 : Int) < 2 ^ (64 - L) := Int.pow_pos (by omega)
  refine ⟨64 - L, ?_, by omega, ?_, ?_⟩
  · unfold bits_LeadingZeros64.f
    refine Ev.bind e ?_
    rw [wid (n := 64 - (L : Int)) (by omega) (by omega), show 64 - (L : Int) = ((64 - L : Nat) : Int) from by omega]
    exact Ev.now _
  · have := Int.mul_le_mul_of_nonneg_right i2 (Int.le_of_lt hs)
    rw [← Int.pow_add, show L - 1 + (64 - L) = 63 from by omega] at this
    exact this
  · have := Int.mul_lt_mul_of_pos_right i3 hs
    rw [← Int.pow_add, show L + (64 - L) = 64 from by omega] at this
    exact this

theorem maskU {n : Int} (h0 : 0 ≤ n) (h1 : n < 18446744073709551616) : Go.bits .and .u64 n 4294967295 = n % 4294967296 := by
  obtain ⟨m, rfl⟩ : ∃ m : Nat, n = (m : Int) := ⟨n.toNat, by omega⟩
  have h := Go.bits_and_u64_nat m 4294967295 (by omega) (by omega)
  have e : m &&& 4294967295 = m % 4294967296 := Nat.and_two_pow_sub_one_eq_mod m 32
  rw [e] at h
  rw [show ((4294967295 : Nat) : Int) = 4294967295 from rfl] at h
  rw [h]; omega
theorem orU {a b : Int} (s : Nat) (ha : 0 ≤ a) (hb : 0 ≤ b) (hb1 : b < 2 ^ s) (h1 : a * 2 ^ s + b < 18446744073709551616) : Go.bits .or .u64 (a * 2 ^ s) b = a * 2 ^ s + b := by
  obtain ⟨m, rfl⟩ : ∃ m : Nat, a = (m : Int) := ⟨a.toNat, by omega⟩
  obtain ⟨n, rfl⟩ : ∃ n : Nat, b = (n : Int) := ⟨b.toNat, by omega⟩
  have e0 : (m : Int) * 2 ^ s = ((2 ^ s * m : Nat) : Int) := by rw [Int.natCast_mul, Int.natCast_pow, Int.mul_comm]; rfl
  rw [e0] at h1 ⊢
  have hn : n < 2 ^ s := by have : (n : Int) < ((2 ^ s : Nat) : Int) := by rw [Int.natCast_pow]; exact hb1
                            omega
  rw [Go.bits_or_u64_nat _ _ (by omega) (by omega), ← Nat.two_pow_add_eq_or_of_lt hn]
  omega
theorem shlU {x : Int} (s : Nat) (hs : s ≤ 63) : shl .u64 x (s : Int) = x * 2 ^ s % 18446744073709551616 := by
  unfold shl
  rw [IntKind.wrap_u64, Int.toNat_natCast, Nat.min_eq_left (show s ≤ IntKind.u64.bits from by show s ≤ 64; omega)]
theorem shrU {x : Int} (s : Nat) (hs : s ≤ 64) : shr .u64 x (s : Int) = x / 2 ^ s := by
  unfold shr
  rw [Int.toNat_natCast, Nat.min_eq_left (show s ≤ IntKind.u64.bits from hs)]
theorem Div64_l0 {y1 y0 u v y s w : Int} {r : Int × Int} (K : Kn y1 y0 u v) (hj : Ev (fun k => bits_Div64.j2 k y s y1 y0 u v w (knQ y1 y0 u v)) r) (n : Nat) : ∀ q h, (4294967296 - h).toNat < n → KnI y1 y0 u v q h → Ev (fun k => bits_Div64.l0 k y s y1 y0 u v w q h) r := by
  induction n with
  | zero => intro q h hn; omega
  | succ n ih =>
    intro q h hn I
    obtain ⟨s1, s2, s3, s4, s5⟩ := kn_size K I
    have j : ∀ b : Bool, (b = true ↔ (q ≥ 4294967296 ∨ q * y0 > 4294967296 * h + v)) → Ev (fun k => bits_Div64.j1 k y s y1 y0 u v w q h b) r := by
      intro b hb
      cases b with
      | true =>
        have hc := hb.1 rfl
        obtain ⟨d1, d2⟩ := kn_down K I hc
        have i2 := I.i2; have i3 := I.i3; have i5 := I.i5; have k1 := K.k1; have k2 := K.k2
        obtain ⟨-, -, z1, -⟩ := knQ_spec K
        by_cases hr : h + y1 ≥ 4294967296
        · refine Ev.step (f := fun k => bits_Div64.j2 k y s y1 y0 u v w (knQ y1 y0 u v)) (fun k => ?_) hj
          rw [bits_Div64.j1, if_pos rfl, wu (n := h + y1) (by omega) (by omega), if_pos hr, wu (n := q - 1) (by omega) (by omega), kn_break K I hc hr]
        · refine Ev.step (f := fun k => bits_Div64.l0 k y s y1 y0 u v w (q - 1) (h + y1)) (fun k => ?_) (ih _ _ (by omega) (kn_next K I hc hr))
          rw [bits_Div64.j1, if_pos rfl, wu (n := h + y1) (by omega) (by omega), if_neg hr, wu (n := q - 1) (by omega) (by omega)]
      | false =>
        have hc : ¬ (q ≥ 4294967296 ∨ q * y0 > 4294967296 * h + v) := fun h => by have := hb.2 h; simp at this
        refine Ev.step (f := fun k => bits_Div64.j2 k y s y1 y0 u v w (knQ y1 y0 u v)) (fun k => ?_) hj
        rw [bits_Div64.j1, if_neg (by simp), kn_stop K I (by omega)]
    by_cases hq : q ≥ 4294967296
    · refine Ev.step (f := fun k => bits_Div64.j1 k y s y1 y0 u v w q h true) (fun k => ?_) (j true ⟨fun _ => .inl hq, fun _ => rfl⟩)
      rw [bits_Div64.l0, if_pos hq]
    · have s6 := s5 (by omega)
      have i2 := I.i2; have i3 := I.i3; have k7 := K.k7
      refine Ev.step (f := fun k => bits_Div64.j1 k y s y1 y0 u v w q h (decide (q * y0 > 4294967296 * h + v))) (fun k => ?_) (j _ ⟨fun h => .inr (of_decide_eq_true h), fun h => decide_eq_true (h.resolve_left hq)⟩)
      rw [bits_Div64.l0, if_neg hq, wu (n := q * y0) (by omega) (by omega), wu (n := 4294967296 * h) (by omega) (by omega), wu (n := 4294967296 * h + v) (by omega) (by omega)]
theorem Div64_l1 {y1 y0 u v y s q1 : Int} (K : Kn y1 y0 u v) (hy : y = y1 * 4294967296 + y0) (hs : 0 ≤ s) (n : Nat) : ∀ q h, (4294967296 - h).toNat < n → KnI y1 y0 u v q h → Ev (fun k => bits_Div64.l1 k y s y1 y0 v q1 h u q) (IntKind.u64.wrap (IntKind.u64.wrap (q1 * 4294967296) + knQ y1 y0 u v), shr .u64 ((u * 4294967296 + v) % y) s) := by
  induction n with
  | zero => intro q h hn; omega
  | succ n ih =>
    intro q h hn I
    obtain ⟨s1, s2, s3, s4, s5⟩ := kn_size K I
    have k1 := K.k1; have k2 := K.k2; have k3 := K.k3; have k4 := K.k4; have k5 := K.k5; have k7 := K.k7; have k8 := K.k8
    have fin : IntKind.u64.wrap (IntKind.u64.wrap (IntKind.u64.wrap (u * 4294967296) + v) - IntKind.u64.wrap (knQ y1 y0 u v * y)) = (u * 4294967296 + v) % y := by
      have e := kn_rem (y1 := y1) (y0 := y0) (u := u) (v := v)
      rw [← hy] at e
      have h0 := Int.emod_nonneg (u * 4294967296 + v) (show y ≠ 0 by omega)
      have h1 := Int.emod_lt_of_pos (u * 4294967296 + v) (show 0 < y by omega)
      simp only [IntKind.wrap_u64]
      omega
    have j : ∀ b : Bool, (b = true ↔ (q ≥ 4294967296 ∨ q * y0 > 4294967296 * h + v)) → Ev (fun k => bits_Div64.j4 k y s y1 y0 v q1 h u q b) (IntKind.u64.wrap (IntKind.u64.wrap (q1 * 4294967296) + knQ y1 y0 u v), shr .u64 ((u * 4294967296 + v) % y) s) := by
      intro b hb
      cases b with
      | true =>
        have hc := hb.1 rfl
        obtain ⟨d1, d2⟩ := kn_down K I hc
        have i2 := I.i2; have i3 := I.i3; have i5 := I.i5
        obtain ⟨-, -, z1, -⟩ := knQ_spec K
        by_cases hr : h + y1 ≥ 4294967296
        · refine Ev.step (f := fun _ => some (IntKind.u64.wrap (IntKind.u64.wrap (q1 * 4294967296) + knQ y1 y0 u v), shr .u64 ((u * 4294967296 + v) % y) s)) (fun k => ?_) (Ev.now _)
          rw [bits_Div64.j4, if_pos rfl, wu (n := h + y1) (by omega) (by omega), if_pos hr, if_pos hs, wu (n := q - 1) (by omega) (by omega), kn_break K I hc hr, fin]
        · refine Ev.step (f := fun k => bits_Div64.l1 k y s y1 y0 v q1 (h + y1) u (q - 1)) (fun k => ?_) (ih _ _ (by omega) (kn_next K I hc hr))
          rw [bits_Div64.j4, if_pos rfl, wu (n := h + y1) (by omega) (by omega), if_neg hr, wu (n := q - 1) (by omega) (by omega)]
      | false =>
        have hc : ¬ (q ≥ 4294967296 ∨ q * y0 > 4294967296 * h + v) := fun h => by have := hb.2 h; simp at this
        refine Ev.step (f := fun _ => some (IntKind.u64.wrap (IntKind.u64.wrap (q1 * 4294967296) + knQ y1 y0 u v), shr .u64 ((u * 4294967296 + v) % y) s)) (fun k => ?_) (Ev.now _)
        rw [bits_Div64.j4, if_neg (by simp), if_pos hs, kn_stop K I (by omega), fin]
    by_cases hq : q ≥ 4294967296
    · refine Ev.step (f := fun k => bits_Div64.j4 k y s y1 y0 v q1 h u q true) (fun k => ?_) (j true ⟨fun _ => .inl hq, fun _ => rfl⟩)
      rw [bits_Div64.l1, if_pos hq]
    · have s6 := s5 (by omega)
      have i2 := I.i2; have i3 := I.i3
      refine Ev.step (f := fun k => bits_Div64.j4 k y s y1 y0 v q1 h u q (decide (q * y0 > 4294967296 * h + v))) (fun k => ?_) (j _ ⟨fun h => .inr (of_decide_eq_true h), fun h => decide_eq_true (h.resolve_left hq)⟩)
      rw [bits_Div64.l1, if_neg hq, wu (n := q * y0) (by omega) (by omega), wu (n := 4294967296 * h) (by omega) (by omega), wu (n := 4294967296 * h + v) (by omega) (by omega)]
theorem Div64_ev {hi lo y : Int} (h0 : 0 ≤ hi) (h1 : hi < y) (h2 : y < 18446744073709551616) (l0 : 0 ≤ lo) (l1 : lo < 18446744073709551616) : ∃ q, Ev (fun k => bits_Div64.f k hi lo y) (q, (hi * 18446744073709551616 + lo) % y) := by
  unfold bits_Div64.f
  simp only [if_neg (show ¬ y = 0 by omega), if_neg (show ¬ y ≤ hi by omega)]
  by_cases hz : hi = 0
  · subst hz
    simp only [if_true]
    rw [tmod_cast l0, Int.zero_mul, Int.zero_add]
    exact ⟨_, Ev.now _⟩
  · simp only [if_neg hz]
    obtain ⟨s, es, s63, n0, n1⟩ := LeadingZeros64_ev (y := y) (by omega) h2
    have hS : (0 : Int) < 2 ^ s := Int.pow_pos (by omega)
    have hT : (0 : Int) < 2 ^ (64 - s) := Int.pow_pos (by omega)
    have hST : (2 : Int) ^ s * 2 ^ (64 - s) = 18446744073709551616 := by rw [← Int.pow_add, show s + (64 - s) = 64 from by omega]; rfl
    have a1 : (hi + 1) * 2 ^ s ≤ y * 2 ^ s := Int.mul_le_mul_of_nonneg_right (by omega) (Int.le_of_lt hS)
    have a0 : 0 ≤ hi * 2 ^ s := Int.mul_nonneg h0 (Int.le_of_lt hS)
    have b0 : 0 ≤ lo / 2 ^ (64 - s) := Int.ediv_nonneg l0 (Int.le_of_lt hT)
    have b1 : lo / 2 ^ (64 - s) < 2 ^ s := Int.ediv_lt_of_lt_mul hT (by rw [hST]; exact l1)
    rw [Int.add_mul, Int.one_mul] at a1
    have es1 : shl .u64 y (s : Int) = y * 2 ^ s := by rw [shlU s s63]; exact Int.emod_eq_of_lt (by omega) n1
    have es2 : shl .u64 hi (s : Int) = hi * 2 ^ s := by rw [shlU s s63]; exact Int.emod_eq_of_lt (by omega) (by omega)
    have es3 : shr .u64 lo (64 - (s : Int)) = lo / 2 ^ (64 - s) := by rw [show 64 - (s : Int) = ((64 - s : Nat) : Int) from by omega, shrU (64 - s) (by omega)]
    have lo' : hi * 2 ^ s + lo / 2 ^ (64 - s) < y * 2 ^ s := by omega
    have split : (hi * 2 ^ s + lo / 2 ^ (64 - s)) * 18446744073709551616 + shl .u64 lo (s : Int) = (hi * 18446744073709551616 + lo) * 2 ^ s := by
      rw [shlU s s63]
      have e1 : lo = 2 ^ (64 - s) * (lo / 2 ^ (64 - s)) + lo % 2 ^ (64 - s) := (Int.mul_ediv_add_emod lo _).symm
      have m0 := Int.emod_nonneg lo (show (2 : Int) ^ (64 - s) ≠ 0 by omega)
      have m1 := Int.emod_lt_of_pos lo hT
      have e2 : lo * 2 ^ s = 18446744073709551616 * (lo / 2 ^ (64 - s)) + lo % 2 ^ (64 - s) * 2 ^ s := by
        conv => lhs; rw [e1]
        rw [← hST]; grind
      have p0 : 0 ≤ lo % 2 ^ (64 - s) * 2 ^ s := Int.mul_nonneg m0 (Int.le_of_lt hS)
      have p1 : lo % 2 ^ (64 - s) * 2 ^ s < 18446744073709551616 := by
        have := Int.mul_lt_mul_of_pos_right m1 hS
        rwa [Int.mul_comm (2 ^ (64 - s)), hST] at this
      have e3 : (hi * 18446744073709551616 + lo) * 2 ^ s = hi * 2 ^ s * 18446744073709551616 + lo * 2 ^ s := by grind
      rw [e3, e2]
      omega
    have v0 : 0 ≤ shl .u64 lo (s : Int) ∧ shl .u64 lo (s : Int) < 18446744073709551616 := by rw [shlU s s63]; omega
    generalize hY : y * 2 ^ s = Y at *
    generalize hU : hi * 2 ^ s + lo / 2 ^ (64 - s) = U at *
    generalize hV : shl .u64 lo (s : Int) = V at *
    have or' : Go.bits .or .u64 (hi * 2 ^ s) (lo / 2 ^ (64 - s)) = U := by rw [orU s h0 b0 b1 (by omega), hU]
    have K1 : Kn (Y / 4294967296) (Y % 4294967296) U (V / 4294967296) := ⟨by omega, by omega, by omega, by omega, by omega, by omega, by omega, by omega⟩
    have yy : Y / 4294967296 * 4294967296 + Y % 4294967296 = Y := by omega
    have I1 := kn_init K1
    generalize hu' : (U * 4294967296 + V / 4294967296) % Y = U' at *
    have u0 : 0 ≤ U' ∧ U' < Y := by rw [← hu']; exact ⟨Int.emod_nonneg _ (by omega), Int.emod_lt_of_pos _ (by omega)⟩
    have K2 : Kn (Y / 4294967296) (Y % 4294967296) U' (V % 4294967296) := ⟨by omega, by omega, by omega, by omega, by omega, by omega, by omega, by omega⟩
    have I2 := kn_init K2
    have ls : ∀ {a b : Int}, 0 ≤ a → 0 ≤ b → 0 ≤ Int.ediv a b ∧ Int.ediv a b ≤ a := fun ha hb => ⟨Int.ediv_nonneg ha hb, Int.ediv_le_self _ ha⟩
    have final : shr .u64 ((U' * 4294967296 + V % 4294967296) % Y) (s : Int) = (hi * 18446744073709551616 + lo) % y := by
      rw [shrU s (by omega), ← hu']
      have e : (((U * 4294967296 + V / 4294967296) % Y) * 4294967296 + V % 4294967296) % Y = ((hi * 18446744073709551616 + lo) % y) * 2 ^ s := by
        rw [Int.add_emod, emod_mul_emod', ← Int.add_emod, ← hY, show (U * 4294967296 + V / 4294967296) * 4294967296 + V % 4294967296 = (hi * 18446744073709551616 + lo) * 2 ^ s from by omega, Int.mul_comm _ (2 ^ s), Int.mul_comm y, Int.mul_emod_mul_of_pos _ _ hS, Int.mul_comm]
      rw [e]
      exact Int.mul_ediv_cancel _ (by omega)
    have D1 := ls (show 0 ≤ U by omega) (show 0 ≤ Y / 4294967296 by omega)
    have D2 := ls u0.1 (show 0 ≤ Y / 4294967296 by omega)
    refine ⟨IntKind.u64.wrap (IntKind.u64.wrap (knQ (Y / 4294967296) (Y % 4294967296) U (V / 4294967296) * 4294967296) + knQ (Y / 4294967296) (Y % 4294967296) U' (V % 4294967296)), Ev.bind es ?_⟩
    rw [wu (n := (s : Int)) (by omega) (by omega)]
    simp only [if_pos (show (0 : Int) ≤ (s : Int) by omega)]
    rw [wu (n := 64 - (s : Int)) (by omega) (by omega)]
    simp only [if_pos (show (0 : Int) ≤ 64 - (s : Int) by omega), es1, es2, es3, hV, or']
    rw [maskU (by omega) (by omega), maskU v0.1 v0.2]
    simp only [if_neg (show ¬ Y / 4294967296 = 0 by omega)]
    rw [tdiv_cast (show 0 ≤ U by omega)]
    have r1 := I1.i2; have r2 := I1.i3; have r3 := I2.i2; have r4 := I2.i3; have r5 := I1.i1; have r6 := I2.i1
    have D1a : 0 ≤ U / (Y / 4294967296) := D1.1
    have D1b : U / (Y / 4294967296) ≤ U := D1.2
    have D2a : 0 ≤ U' / (Y / 4294967296) := D2.1
    have D2b : U' / (Y / 4294967296) ≤ U' := D2.2
    have M1 := Int.mul_nonneg D1a (show 0 ≤ Y / 4294967296 by omega)
    have M2 := Int.mul_nonneg D2a (show 0 ≤ Y / 4294967296 by omega)
    rw [wu (n := U / (Y / 4294967296)) (by omega) (by omega), wu (n := U / (Y / 4294967296) * (Y / 4294967296)) (by omega) (by omega), wu (n := U - U / (Y / 4294967296) * (Y / 4294967296)) (by omega) (by omega)]
    rw [← final]
    refine Div64_l0 K1 ?_ _ _ _ (Nat.lt_succ_self _) I1
    refine Ev.step (f := fun k => bits_Div64.l1 k Y s (Y / 4294967296) (Y % 4294967296) (V % 4294967296) (knQ (Y / 4294967296) (Y % 4294967296) U (V / 4294967296)) (U' - U' / (Y / 4294967296) * (Y / 4294967296)) U' (U' / (Y / 4294967296))) (fun k => ?_) (Div64_l1 K2 yy.symm (by omega) _ _ _ (Nat.lt_succ_self _) I2)
    have e := kn_rem (y1 := Y / 4294967296) (y0 := Y % 4294967296) (u := U) (v := V / 4294967296)
    rw [yy, hu'] at e
    have fin : IntKind.u64.wrap (IntKind.u64.wrap (IntKind.u64.wrap (U * 4294967296) + V / 4294967296) - IntKind.u64.wrap (knQ (Y / 4294967296) (Y % 4294967296) U (V / 4294967296) * Y)) = U' := by
      simp only [IntKind.wrap_u64]
      omega
    rw [bits_Div64.j2, if_neg (show ¬ Y / 4294967296 = 0 by omega), fin, tdiv_cast u0.1, wu (n := U' / (Y / 4294967296)) (by omega) (by omega), wu (n := U' / (Y / 4294967296) * (Y / 4294967296)) (by omega) (by omega), wu (n := U' - U' / (Y / 4294967296) * (Y / 4294967296)) (by omega) (by omega)]

theorem Mul64_eq {a b : Int} (a0 : 0 ≤ a) (a1 : a < 18446744073709551616) (b0 : 0 ≤ b) (b1 : b < 18446744073709551616) : bits_Mul64.f a b = some (a * b / 18446744073709551616, a * b % 18446744073709551616) := by
  unfold bits_Mul64.f
  rw [maskU a0 a1, maskU b0 b1]
  have hz : ∀ {x y : Int}, 0 ≤ x → x ≤ 4294967295 → 0 ≤ y → y ≤ 4294967295 → 0 ≤ x * y ∧ x * y ≤ 18446744065119617025 := fun hx hx2 hy hy2 => ⟨Int.mul_nonneg hx hy, Int.mul_le_mul hx2 hy2 hy (by omega)⟩
  obtain ⟨x1, hx1⟩ : ∃ x, x = a / 4294967296 := ⟨_, rfl⟩
  obtain ⟨x0, hx0⟩ : ∃ x, x = a % 4294967296 := ⟨_, rfl⟩
  obtain ⟨y1, hy1⟩ : ∃ x, x = b / 4294967296 := ⟨_, rfl⟩
  obtain ⟨y0, hy0⟩ : ∃ x, x = b % 4294967296 := ⟨_, rfl⟩
  have ha : a = x1 * 4294967296 + x0 := by omega
  have hb : b = y1 * 4294967296 + y0 := by omega
  have e : a * b = x1 * y1 * 18446744073709551616 + x1 * y0 * 4294967296 + x0 * y1 * 4294967296 + x0 * y0 := by rw [ha, hb]; grind
  rw [← hx1, ← hx0, ← hy1, ← hy0]
  have p11 := hz (x := x1) (y := y1) (by omega) (by omega) (by omega) (by omega)
  have p10 := hz (x := x1) (y := y0) (by omega) (by omega) (by omega) (by omega)
  have p01 := hz (x := x0) (y := y1) (by omega) (by omega) (by omega) (by omega)
  have p00 := hz (x := x0) (y := y0) (by omega) (by omega) (by omega) (by omega)
  rw [e]
  clear e ha hb hx1 hx0 hy1 hy0
  generalize x1 * y1 = A at *
  generalize x1 * y0 = B at *
  generalize x0 * y1 = C at *
  generalize x0 * y0 = D at *
  rw [wu (n := A) (by omega) (by omega), wu (n := B) (by omega) (by omega), wu (n := C) (by omega) (by omega), wu (n := D) (by omega) (by omega)]
  rw [wu (n := B + D / 4294967296) (by omega) (by omega), maskU (n := B + D / 4294967296) (by omega) (by omega)]
  simp only [IntKind.wrap_u64]
  congr 1
  refine Prod.ext ?_ ?_ <;> simp only <;> omega
theorem impl_times_ev {a b m : Int} (hm : 1 ≤ m) (hm2 : m ≤ 2305843009213693952) : Ev (fun k => impl_times.f k a b m) (a * b % m) := by
  unfold impl_times.f
  refine Ev.bindv (impl_mod_eq hm hm2) (Ev.bindv (impl_mod_eq hm hm2) ?_)
  have a0 := Int.emod_nonneg a (show m ≠ 0 by omega)
  have a1 := Int.emod_lt_of_pos a (show 0 < m by omega)
  have b0 := Int.emod_nonneg b (show m ≠ 0 by omega)
  have b1 := Int.emod_lt_of_pos b (show 0 < m by omega)
  rw [wu (n := a % m) (by omega) (by omega), wu (n := b % m) (by omega) (by omega), wu (n := m) (by omega) (by omega)]
  refine Ev.bindv (Mul64_eq (by omega) (by omega) (by omega) (by omega)) ?_
  simp only [if_neg (show ¬ m = 0 by omega)]
  have p0 : 0 ≤ a % m * (b % m) := Int.mul_nonneg a0 b0
  have h0 : 0 ≤ a % m * (b % m) / 18446744073709551616 := by omega
  rw [tmod_cast h0]
  obtain ⟨q, hq⟩ := Div64_ev (hi := a % m * (b % m) / 18446744073709551616 % m) (lo := a % m * (b % m) % 18446744073709551616) (y := m) (Int.emod_nonneg _ (by omega)) (Int.emod_lt_of_pos _ (by omega)) (by omega) (by omega) (by omega)
  refine Ev.bind hq ?_
  have e : (a % m * (b % m) / 18446744073709551616 % m * 18446744073709551616 + a % m * (b % m) % 18446744073709551616) % m = a * b % m := by
    rw [Int.add_emod, emod_mul_emod', ← Int.add_emod, show a % m * (b % m) / 18446744073709551616 * 18446744073709551616 + a % m * (b % m) % 18446744073709551616 = a % m * (b % m) from by omega, ← Int.mul_emod]
  rw [e]
  have c0 := Int.emod_nonneg (a * b) (show m ≠ 0 by omega)
  have c1 := Int.emod_lt_of_pos (a * b) (show 0 < m by omega)
  rw [wid (n := a * b % m) (by omega) (by omega)]
  exact Ev.now _

theorem spec_l01Power_l (p : Int) (n : Nat) : ∀ (x acc : Int), (n : Int) ≤ 9223372036854775807 → (x = n ∨ (n = 0 ∧ x ≤ 0)) → Ev (fun k => spec_l01Power.l0 k p x acc) (powW p n acc) := by
  induction n with
  | zero =>
    intro x acc _ hx
    exact Ev.step (f := fun _ => some acc) (fun k => by simp only [spec_l01Power.l0]; rw [if_neg (by omega)]) (Ev.now _)
  | succ n ih =>
    intro x acc hn hx
    have hx' : x = n + 1 := by omega
    exact Ev.step (f := fun k => spec_l01Power.l0 k p n (wrap64 (acc * p))) (fun k => by
      simp only [spec_l01Power.l0]; rw [if_pos (by omega), show wrap64 (x - 1) = (n : Int) from by rw [hx', wid (by omega) (by omega)]; omega]) (ih n _ (by omega) (.inl rfl))
theorem spec_l01Power_ev (p x : Int) (h : x ≤ 9223372036854775807) : Ev (fun k => spec_l01Power.f k p x) (powW p x.toNat 1) := by
  refine Ev.congr (f := fun k => spec_l01Power.l0 k p x 1) (fun k => rfl) (spec_l01Power_l p x.toNat x 1 (by omega) (by omega))

theorem spec_l01Val_l (p : Int) (hp : 2 ≤ p) (v : Nat) : ∀ (n u acc : Int), n = p ^ v * u → ¬ p ∣ u → n ≠ 0 → -4611686018427387904 ≤ n → n ≤ 4611686018427387904 → 0 ≤ acc → acc + v ≤ 4611686018427387904 → Ev (fun k => spec_l01Val.l0 k p n acc) (acc + v) := by
  induction v with
  | zero =>
    intro n u acc h hu h0 h1 h2 h3 h4
    refine Ev.step (f := fun _ => some acc) (fun k => ?_) (by simp; exact Ev.now _)
    simp only [spec_l01Val.l0]
    rw [if_neg (by omega), if_neg]
    intro e
    rw [h] at e
    exact hu (by simpa using Int.dvd_of_tmod_eq_zero e)
  | succ v ih =>
    intro n u acc h hu h0 h1 h2 h3 h4
    have hn : n = p * (p ^ v * u) := by rw [h, Int.pow_succ', Int.mul_assoc]
    have hm : Int.tmod n p = 0 := by rw [hn]; exact Int.mul_tmod_right p _
    have hd : Int.tdiv n p = p ^ v * u := by rw [hn]; exact Int.mul_tdiv_cancel_left _ (by omega)
    have hb := tdiv_bdv p (show -4611686018427387904 ≤ n ∧ n ≤ 4611686018427387904 from ⟨h1, h2⟩)
    have hne : p ^ v * u ≠ 0 := by intro e; rw [e] at hn; simp at hn; exact h0 hn
    refine Ev.step (f := fun k => spec_l01Val.l0 k p (p ^ v * u) (acc + 1)) (fun k => ?_) ?_
    · simp only [spec_l01Val.l0]
      rw [if_neg (by omega), if_pos hm, hd]
      rw [hd] at hb
      rw [wid (n := p ^ v * u) (by omega) (by omega), wid (n := acc + 1) (by omega) (by omega)]
    · rw [hd] at hb
      have := ih (p ^ v * u) u (acc + 1) rfl hu hne hb.1 hb.2 (by omega) (by omega)
      rw [show acc + ((v + 1 : Nat) : Int) = acc + 1 + (v : Int) from by omega]
      exact this
theorem spec_l01Val_ev {p n : Int} (hp : 2 ≤ p) (h0 : n ≠ 0) (h1 : -4611686018427387904 ≤ n) (h2 : n ≤ 4611686018427387904) : Ev (fun k => spec_l01Val.f k p n) (val p n : Int) := by
  obtain ⟨u, h, hu⟩ := val_spec hp h0
  have hv := val_le_of_lt hp h0 63 (by omega)
  have := spec_l01Val_l p hp (val p n) n u 0 h hu h0 h1 h2 (by omega) (by omega)
  rw [Int.zero_add] at this
  unfold spec_l01Val.f
  exact this

theorem spec_l01MulMod_eq {a b m : Int} (hm : 1 ≤ m) (hm2 : m ≤ 100000000000) : spec_l01MulMod.f a b m = some (a * b % m) := by
  unfold spec_l01MulMod.f
  rw [if_neg (by omega), modW hm (by omega), modW hm (by omega)]
  have a0 := Int.emod_nonneg a (show m ≠ 0 by omega)
  have a1 := Int.emod_lt_of_pos a (show 0 < m by omega)
  have b0 := Int.emod_nonneg b (show m ≠ 0 by omega)
  have b1 := Int.emod_lt_of_pos b (show 0 < m by omega)
  have hab : a * b % m = (a % m) * (b % m) % m := Int.mul_emod a b m
  rw [hab]
  generalize a % m = x at *
  generalize b % m = y at *
  rw [tdiv_cast b0, tmod_cast b0]
  have q0 : 0 ≤ y / 1000000 := by omega
  have q1 : y / 1000000 ≤ 100000 := by omega
  have r0 : 0 ≤ y % 1000000 := by omega
  have r1 : y % 1000000 ≤ 1000000 := by omega
  have p0 : 0 ≤ x * (y / 1000000) := Int.mul_nonneg a0 q0
  have p1 : x * (y / 1000000) ≤ 100000000000 * 100000 := Int.mul_le_mul (by omega) q1 q0 (by omega)
  have s0 : 0 ≤ x * (y % 1000000) := Int.mul_nonneg a0 r0
  have s1 : x * (y % 1000000) ≤ 100000000000 * 1000000 := Int.mul_le_mul (by omega) r1 r0 (by omega)
  rw [wid (n := y / 1000000) (by omega) (by omega), wid (n := x * (y / 1000000)) (by omega) (by omega), wid (n := x * (y % 1000000)) (by omega) (by omega), tmod_cast p0, tmod_cast s0]
  have t0 := Int.emod_nonneg (x * (y / 1000000)) (show m ≠ 0 by omega)
  have t1 := Int.emod_lt_of_pos (x * (y / 1000000)) (show 0 < m by omega)
  rw [wid (n := x * (y / 1000000) % m * 1000000) (by omega) (by omega), tmod_cast (a := x * (y / 1000000) % m * 1000000) (by omega)]
  have u0 := Int.emod_nonneg (x * (y / 1000000) % m * 1000000) (show m ≠ 0 by omega)
  have u1 := Int.emod_lt_of_pos (x * (y / 1000000) % m * 1000000) (show 0 < m by omega)
  have v0 := Int.emod_nonneg (x * (y % 1000000)) (show m ≠ 0 by omega)
  have v1 := Int.emod_lt_of_pos (x * (y % 1000000)) (show 0 < m by omega)
  rw [wid (n := x * (y / 1000000) % m * 1000000 % m + x * (y % 1000000) % m) (by omega) (by omega), tmod_cast (a := x * (y / 1000000) % m * 1000000 % m + x * (y % 1000000) % m) (by omega)]
  congr 1
  have e1 : x * (y / 1000000) % m * 1000000 % m = x * (y / 1000000) * 1000000 % m := by rw [emod_mul_emod']
  rw [e1, ← Int.add_emod]
  congr 1
  rw [Int.mul_assoc, ← Int.mul_add]
  congr 1
  omega

theorem In_eq (a b c : Int) : spec_l01In.f a b c = some (decide (b ≤ a ∧ a ≤ c)) := by
  unfold spec_l01In.f
  by_cases h : a ≥ b
  · rw [if_pos h]; congr 1; exact decide_eq_decide.2 ⟨fun h2 => ⟨h, h2⟩, fun h2 => h2.2⟩
  · rw [if_neg h]; congr 1; exact (decide_eq_false (fun h2 => h h2.1)).symm

theorem mx_eq' (a b : Int) : mx a b = if a < b then b else a := rfl
def uOf (p n : Int) : Int := n / p ^ val p n
theorem uOf_spec {p n : Int} (hp : 2 ≤ p) (h : n ≠ 0) : n = p ^ val p n * uOf p n ∧ ¬ p ∣ uOf p n := by
  obtain ⟨u, hu, hn⟩ := val_spec hp h
  have e : uOf p n = u := by
    unfold uOf
    conv => lhs; lhs; rw [hu]
    exact Int.mul_ediv_cancel_left u (Int.pow_ne_zero (by omega))
  rw [e]; exact ⟨hu, hn⟩
theorem uOf_bd {p n M : Int} (hp : 2 ≤ p) (h : n ≠ 0) (hM : -M ≤ n ∧ n ≤ M) : (-M ≤ uOf p n ∧ uOf p n ≤ M) ∧ 1 ≤ p ^ val p n ∧ p ^ val p n ≤ M := by
  obtain ⟨hu, hn⟩ := uOf_spec hp h
  have hu0 : uOf p n ≠ 0 := by intro e; rw [e] at hn; exact hn (Int.dvd_zero p)
  have h1 := ipow_pos (p := p) (by omega) (val p n)
  have e : n.natAbs = (p ^ val p n).natAbs * (uOf p n).natAbs := by rw [← Int.natAbs_mul, ← hu]
  have h3 : (p ^ val p n).natAbs * 1 ≤ (p ^ val p n).natAbs * (uOf p n).natAbs := Nat.mul_le_mul_left _ (by omega)
  have h4 : 1 * (uOf p n).natAbs ≤ (p ^ val p n).natAbs * (uOf p n).natAbs := Nat.mul_le_mul_right _ (by omega)
  omega
theorem uOf_scale {p n : Int} (j : Nat) (hp : 2 ≤ p) (h : n ≠ 0) : uOf p (p ^ j * n) = uOf p n := by
  unfold uOf
  rw [val_pow_mul j hp h, Int.pow_add, Int.mul_ediv_mul_of_pos _ _ (Int.pow_pos (by omega))]
def atF (p L n d w : Int) : Int × Int × Int × Bool :=
  if ¬ (-6 ≤ L ∧ L ≤ 6) then (0, 0, 0, false)
  else if n = 0 ∨ L ≤ (val p n : Int) - val p d then (L, 0, 0, true)
  else if (val p n : Int) - val p d < -6 then (0, 0, 0, false)
  else ((ofM p L (uOf p n * w * p ^ ((val p n : Int) - val p d + 6).toNat)).1, (ofM p L (uOf p n * w * p ^ ((val p n : Int) - val p d + 6).toNat)).2.1, (ofM p L (uOf p n * w * p ^ ((val p n : Int) - val p d + 6).toNat)).2.2, true)
theorem atF_scale {p L n d w : Int} (j : Nat) (hp : 2 ≤ p) (hd : d ≠ 0) : atF p L (p ^ j * n) (p ^ j * d) w = atF p L n d w := by
  unfold atF
  by_cases h0 : n = 0
  · subst h0
    simp
  · have : p ^ j * n ≠ 0 := Int.mul_ne_zero (Int.pow_ne_zero (by omega)) h0
    rw [val_pow_mul j hp h0, val_pow_mul j hp hd, uOf_scale j hp h0]
    have e : ((j + val p n : Nat) : Int) - ((j + val p d : Nat) : Int) = (val p n : Int) - val p d := by omega
    rw [e]
    simp only [this, h0]
theorem atF_ball {p L n d w : Int} (hp : primeB p = true) (h : (atF p L n d w).2.2.2 = true) : ballB p (atF p L n d w).1 (atF p L n d w).2.1 (atF p L n d w).2.2.1 = true := by
  revert h
  unfold atF
  by_cases hL : -6 ≤ L ∧ L ≤ 6
  · rw [if_neg (by simpa using hL)]
    by_cases h1 : n = 0 ∨ L ≤ (val p n : Int) - val p d
    · rw [if_pos h1]; intro _
      have := ofM_ball (X := 0) hp hL
      have e : ofM p L 0 = (L, 0, 0) := ofM_of (prime_lo hp) (by simp) (by omega) (.inl rfl)
      rw [e] at this; exact this
    · rw [if_neg h1]
      by_cases h2 : (val p n : Int) - val p d < -6
      · rw [if_pos h2]; intro h; simp at h
      · rw [if_neg h2]; intro _; exact ofM_ball hp hL
  · rw [if_pos hL]; intro h; simp at h
theorem impl_unit_ev {p n : Int} (hp : primeB p = true) (h : n ≠ 0) (h1 : -1152921504606846976 ≤ n) (h2 : n ≤ 1152921504606846976) : Ev (fun k => impl_unit.f k p n) (uOf p n) := by
  have hp2 := prime_lo hp
  obtain ⟨b1, b2, b3⟩ := uOf_bd hp2 h ⟨h1, h2⟩
  obtain ⟨hu, hn⟩ := uOf_spec hp2 h
  unfold impl_unit.f
  refine Ev.bind (impl_valuation_ev hp2 (by omega) (by omega)) ?_
  have hv : valW p n = (val p n : Int) := by unfold valW; rw [if_neg h]
  rw [hv]
  have hv61 := val_le_of_lt hp2 h 61 (by omega)
  refine Ev.bind (impl_power_ev p _ (by omega)) ?_
  rw [Int.toNat_natCast, powW_fit p (by omega) _ 1 (by omega) (by omega), Int.one_mul]
  simp only [if_neg (show ¬ p ^ val p n = 0 by omega)]
  have e : Int.tdiv n (p ^ val p n) = uOf p n := by
    conv => lhs; lhs; rw [hu]
    exact Int.mul_tdiv_cancel_left _ (by omega)
  rw [e, wid (n := uOf p n) (by omega) (by omega)]
  exact Ev.now _
theorem impl_ballAt_ev {p n d L : Int} (hp : primeB p = true) (hd : d ≠ 0) (n1 : -1152921504606846976 ≤ n) (n2 : n ≤ 1152921504606846976) (d1 : -1152921504606846976 ≤ d) (d2 : d ≤ 1152921504606846976) :
    ∃ w, ((-6 ≤ L ∧ L ≤ 6) → isInv (uOf p d) (p ^ (L + 6).toNat) w) ∧ Ev (fun k => impl_ballAt.f k p n d L) (atF p L n d w) := by
  have hp2 := prime_lo hp
  unfold impl_ballAt.f
  by_cases hL : -6 ≤ L ∧ L ≤ 6
  · have m1 := ipow_pos (p := p) (by omega) (L + 6).toNat
    have m2 := pow_13 hp (L + 6).toNat (by omega)
    obtain ⟨w, hw, iw⟩ := impl_inverse_ev m1 (by omega) (gcd_unit hp (uOf_spec hp2 hd).2 (L + 6).toNat)
    refine ⟨w, fun _ => iw, ?_⟩
    refine Ev.bindv (impl_isLevel_eq L) ?_
    rw [decide_eq_true hL]
    simp only [if_true]
    refine Ev.bind (impl_valuation_ev hp2 (by omega) (by omega)) (Ev.bind (impl_valuation_ev hp2 (by omega) (by omega)) ?_)
    have hvd : valW p d = (val p d : Int) := by unfold valW; rw [if_neg hd]
    rw [hvd]
    unfold atF
    rw [if_neg (by simpa using hL)]
    by_cases h0 : n = 0
    · simp only [if_pos h0]
      rw [if_pos (.inl h0)]
      exact Ev.step (f := fun _ => some (L, 0, 0, true)) (fun k => by simp only [impl_ballAt.j0, if_true]) (Ev.now _)
    · simp only [if_neg h0]
      have hvn : valW p n = (val p n : Int) := by unfold valW; rw [if_neg h0]
      have v1 := val_le_of_lt hp2 h0 61 (by omega)
      have v2 := val_le_of_lt hp2 hd 61 (by omega)
      rw [hvn, wid (n := (val p n : Int) - val p d) (by omega) (by omega)]
      by_cases hle : L ≤ (val p n : Int) - val p d
      · rw [if_pos (.inr hle), decide_eq_true (show (val p n : Int) - val p d ≥ L from hle)]
        exact Ev.step (f := fun _ => some (L, 0, 0, true)) (fun k => by simp only [impl_ballAt.j0, if_true]) (Ev.now _)
      · rw [if_neg (by omega), decide_eq_false (show ¬ (val p n : Int) - val p d ≥ L from hle)]
        by_cases h6 : (val p n : Int) - val p d < -6
        · rw [if_pos h6]
          exact Ev.step (f := fun _ => some (0, 0, 0, false)) (fun k => by simp only [impl_ballAt.j0, Bool.false_eq_true, if_false]; rw [if_pos h6]) (Ev.now _)
        · rw [if_neg h6]
          generalize hv : (val p n : Int) - val p d = v at *
          refine Ev.up ?_
          simp only [impl_ballAt.j0, Bool.false_eq_true, if_false, if_neg h6]
          rw [wid (n := L + 6) (by omega) (by omega), wid (n := v + 6) (by omega) (by omega)]
          refine Ev.bind (impl_power_ev p (L + 6) (by omega)) ?_
          rw [powW_prime hp _ (by omega)]
          refine Ev.bind (impl_unit_ev hp h0 n1 n2) (Ev.bind (impl_unit_ev hp hd d1 d2) (Ev.bind hw ?_))
          refine Ev.bind (impl_times_ev m1 (by omega)) (Ev.bind (impl_power_ev p (v + 6) (by omega)) ?_)
          rw [powW_prime hp _ (by omega)]
          refine Ev.bind (impl_times_ev m1 (by omega)) (Ev.bind (impl_ofMark_ev hp hL) ?_)
          rw [emod_mul_emod', ofM_mod]
          exact Ev.now _
  · refine ⟨0, fun h => absurd h hL, ?_⟩
    refine Ev.bindv (impl_isLevel_eq L) ?_
    rw [decide_eq_false hL]
    simp only [Bool.false_eq_true, if_false]
    unfold atF
    rw [if_pos hL]
    exact Ev.now _
theorem spec_l01Of_ev {p n d L w : Int} (hp : primeB p = true) (hd : d ≠ 0) (n1 : -1152921504606846976 ≤ n) (n2 : n ≤ 1152921504606846976) (d1 : -1152921504606846976 ≤ d) (d2 : d ≤ 1152921504606846976)
    (hw : (-6 ≤ L ∧ L ≤ 6) → isInv (uOf p d) (p ^ (L + 6).toNat) w) : Ev (fun k => spec_l01Of.f k p n d L) (atF p L n d w) := by
  have hp2 := prime_lo hp
  have hpow : ∀ j : Nat, p ^ j ≠ 0 := fun j => Int.pow_ne_zero (by omega)
  unfold spec_l01Of.f
  refine Ev.bindv (In_eq _ _ _) ?_
  unfold atF
  by_cases hL : -6 ≤ L ∧ L ≤ 6
  · rw [decide_eq_true hL, if_neg (by simpa using hL)]
    simp only [if_true]
    by_cases h0 : n = 0
    · simp only [if_pos h0]
      rw [if_pos (.inl h0)]; exact Ev.now _
    simp only [if_neg h0]
    refine Ev.bind (spec_l01Val_ev hp2 h0 (by omega) (by omega)) (Ev.bind (spec_l01Val_ev hp2 hd (by omega) (by omega)) ?_)
    have v1 := val_le_of_lt hp2 h0 61 (by omega)
    have v2 := val_le_of_lt hp2 hd 61 (by omega)
    obtain ⟨bu, pu1, pu2⟩ := uOf_bd hp2 h0 (M := 1152921504606846976) ⟨n1, n2⟩
    obtain ⟨bd, pd1, pd2⟩ := uOf_bd hp2 hd (M := 1152921504606846976) ⟨d1, d2⟩
    obtain ⟨eu, nu⟩ := uOf_spec hp2 h0
    obtain ⟨ed, nd⟩ := uOf_spec hp2 hd
    have q1 : Int.tdiv n (p ^ val p n) = uOf p n := by
      conv => lhs; lhs; rw [eu]
      exact Int.mul_tdiv_cancel_left _ (hpow _)
    have q2 : Int.tdiv d (p ^ val p d) = uOf p d := by
      conv => lhs; lhs; rw [ed]
      exact Int.mul_tdiv_cancel_left _ (hpow _)
    have r1 : powW p (val p n) 1 = p ^ val p n := by rw [powW_fit p (by omega) _ 1 (by omega) (by omega), Int.one_mul]
    have r2 : powW p (val p d) 1 = p ^ val p d := by rw [powW_fit p (by omega) _ 1 (by omega) (by omega), Int.one_mul]
    generalize hva : val p n = a at *
    generalize hvb : val p d = b at *
    rw [wid (n := (a : Int) - (b : Int)) (by omega) (by omega), wid (n := (b : Int) - (a : Int)) (by omega) (by omega)]
    by_cases hle : L ≤ (a : Int) - (b : Int)
    · simp only [if_pos hle]
      rw [if_pos (.inr hle)]; exact Ev.now _
    simp only [if_neg hle]
    rw [if_neg (by omega)]
    obtain ⟨dn, hdn⟩ : ∃ dn : Nat, (dn : Int) = mx ((b : Int) - (a : Int)) 0 := ⟨b - a, by rw [mx_eq']; split <;> omega⟩
    have hdn2 : (dn : Int) = if (b : Int) - a < 0 then 0 else (b : Int) - a := by rw [hdn, mx_eq']
    obtain ⟨e, he⟩ : ∃ e : Nat, (e : Int) = mx ((a : Int) - (b : Int)) 0 := ⟨a - b, by rw [mx_eq']; split <;> omega⟩
    have he2 : (e : Int) = if (a : Int) - b < 0 then 0 else (a : Int) - b := by rw [he, mx_eq']
    rw [← hdn, ← he]
    by_cases h6 : (a : Int) - b < -6
    · rw [if_pos h6]
      simp only [if_pos (show (dn : Int) > 6 by split at hdn2 <;> omega)]
      exact Ev.now _
    rw [if_neg h6]
    have hdn6 : dn ≤ 6 := by split at hdn2 <;> omega
    simp only [if_neg (show ¬ (dn : Int) > 6 by omega)]
    have hmp : 1 ≤ L + dn := by split at hdn2 <;> omega
    rw [wid (n := L + (dn : Int)) (by omega) (by omega)]
    refine Ev.bind (spec_l01Power_ev p (L + dn) (by omega)) ?_
    rw [powW_prime hp _ (by omega)]
    refine Ev.bind (spec_l01Power_ev p a (by omega)) ?_
    rw [Int.toNat_natCast, r1]
    simp only [if_neg (hpow a)]
    refine Ev.bind (spec_l01Power_ev p b (by omega)) ?_
    rw [Int.toNat_natCast, r2]
    simp only [if_neg (hpow b)]
    rw [q1, q2, wid (n := uOf p n) (by omega) (by omega), wid (n := uOf p d) (by omega) (by omega)]
    have m1 := ipow_pos (p := p) (by omega) (L + (dn : Int)).toNat
    have m2 := pow_13 hp (L + (dn : Int)).toNat (by omega)
    obtain ⟨w', ew', iw'⟩ := spec_l01InvMod_ev m1 (by omega) (gcd_unit hp nd (L + (dn : Int)).toNat)
    refine Ev.bind ew' ?_
    refine Ev.bindv (spec_l01MulMod_eq m1 (by omega)) ?_
    have he6 : (e : Int) ≤ 6 := by split at he2 <;> omega
    refine Ev.bind (spec_l01Power_ev p e (by omega)) ?_
    rw [Int.toNat_natCast, powW_prime hp e (by omega)]
    refine Ev.bindv (spec_l01MulMod_eq m1 (by omega)) ?_
    rw [emod_mul_emod']
    have hexp : ((a : Int) - b + 6).toNat = (6 - (dn : Int)).toNat + e := by split at hdn2 <;> split at he2 <;> omega
    have hexp2 : (L + 6).toNat = (6 - (dn : Int)).toNat + (L + (dn : Int)).toNat := by omega
    have hq := ipow_pos (p := p) (by omega) (6 - (dn : Int)).toNat
    have hww : (uOf p n * w * p ^ e) % p ^ (L + (dn : Int)).toNat = (uOf p n * w' * p ^ e) % p ^ (L + (dn : Int)).toNat := by
      obtain ⟨_, _, k, hk⟩ := hw hL
      obtain ⟨_, _, k', hk'⟩ := iw'
      rw [hexp2, Int.pow_add] at hk
      apply Int.emod_eq_emod_iff_emod_sub_eq_zero.2
      apply Int.emod_eq_zero_of_dvd
      generalize p ^ (L + (dn : Int)).toNat = M at *
      generalize p ^ (6 - (dn : Int)).toNat = N at *
      generalize p ^ e = E at *
      generalize uOf p n = U at *
      generalize uOf p d = D at *
      exact ⟨U * E * (w * k' - w' * (k * N)), by grind⟩
    have key : ofM p L (uOf p n * w * p ^ ((a : Int) - b + 6).toNat) = (L, uOf p n * w' * p ^ e % p ^ (L + (dn : Int)).toNat, (dn : Int)) := by
      refine ofM_of hp2 ?_ (by omega) ?_
      · rw [hexp, hexp2, Int.pow_add, Int.pow_add, Int.mul_comm (p ^ (6 - (dn : Int)).toNat) (p ^ e), ← Int.mul_assoc, Int.mul_comm _ (p ^ (6 - (dn : Int)).toNat), Int.mul_emod_mul_of_pos _ _ (by omega), hww, Int.mul_comm]
      · by_cases hz : dn = 0
        · left; omega
        · right
          have e0 : e = 0 := by split at hdn2 <;> split at he2 <;> omega
          rw [e0, Int.pow_zero, Int.mul_one]
          intro hdv
          have hpm : p ∣ p ^ (L + (dn : Int)).toNat := by
            obtain ⟨j, hj⟩ : ∃ j, (L + (dn : Int)).toNat = j + 1 := ⟨(L + (dn : Int)).toNat - 1, by omega⟩
            rw [hj, Int.pow_succ']; exact Int.dvd_mul_right _ _
          have h3 := Int.dvd_add hdv (Int.dvd_trans hpm (Int.dvd_mul_right (p ^ (L + (dn : Int)).toNat) (uOf p n * w' / p ^ (L + (dn : Int)).toNat)))
          rw [Int.emod_add_mul_ediv] at h3
          obtain ⟨_, _, k', hk'⟩ := iw'
          have h4 : p ∣ uOf p n * w' * uOf p d := Int.dvd_trans h3 (Int.dvd_mul_right _ _)
          have h5 : uOf p n = uOf p n * w' * uOf p d + uOf p n * k' * p ^ (L + (dn : Int)).toNat := by
            generalize p ^ (L + (dn : Int)).toNat = M at *
            generalize uOf p n = U at *
            generalize uOf p d = D at *
            grind
          apply nu
          rw [h5]
          exact Int.dvd_add h4 (Int.dvd_trans hpm (Int.dvd_mul_left _ _))
    rw [key]
    exact Ev.now _
  · rw [decide_eq_false hL, if_pos hL]
    simp only [Bool.false_eq_true, if_false]
    exact Ev.now _

def entB (x : Int) : Bool := decide (-1000 ≤ x ∧ x ≤ 1000)
def matB (a b c d : Int) : Bool := (entB a && (entB b && (entB c && entB d))) && !(a * d - b * c == 0)
theorem ent_lo {x : Int} (h : entB x = true) : -1000 ≤ x := by unfold entB at h; simp at h; omega
theorem ent_hi {x : Int} (h : entB x = true) : x ≤ 1000 := by unfold entB at h; simp at h; omega
theorem mul_bd {x y m n : Int} (hx : -m ≤ x) (hx2 : x ≤ m) (hy : -n ≤ y) (hy2 : y ≤ n) (hm : 0 ≤ m) (hn : 0 ≤ n) : -(m * n) ≤ x * y ∧ x * y ≤ m * n := by
  have h1 := Int.mul_nonneg (show 0 ≤ m - x by omega) (show 0 ≤ n - y by omega)
  have h2 := Int.mul_nonneg (show 0 ≤ m + x by omega) (show 0 ≤ n + y by omega)
  have h3 := Int.mul_nonneg (show 0 ≤ m - x by omega) (show 0 ≤ n + y by omega)
  have h4 := Int.mul_nonneg (show 0 ≤ m + x by omega) (show 0 ≤ n - y by omega)
  simp only [Int.sub_mul, Int.mul_sub, Int.add_mul, Int.mul_add] at h1 h2 h3 h4
  constructor <;> omega
theorem det_bd {a b c d m : Int} (hm : 0 ≤ m) (ha : -m ≤ a ∧ a ≤ m) (hb : -m ≤ b ∧ b ≤ m) (hc : -m ≤ c ∧ c ≤ m) (hd : -m ≤ d ∧ d ≤ m) : (-(m * m) ≤ a * d ∧ a * d ≤ m * m) ∧ (-(m * m) ≤ b * c ∧ b * c ≤ m * m) :=
  ⟨mul_bd ha.1 ha.2 hd.1 hd.2 hm hm, mul_bd hb.1 hb.2 hc.1 hc.2 hm hm⟩

theorem rd_nat (l : List Int) (j : Nat) (h : j < l.length) : rd l (j : Int) = l[j] := by
  unfold rd; rw [Int.toNat_natCast, List.getD_eq_getElem?_getD, List.getElem?_eq_getElem h]; rfl
theorem all_ev {β : Type} (g : Nat → Int → Option β) (n : Nat) (p : Nat → Bool) (yes no : β)
    (hstep : ∀ (i : Nat), i < n → p i = true → Ev (fun k => g k ((i : Int) + 1)) yes → Ev (fun k => g k i) yes)
    (hstepno : ∀ (i : Nat), i < n → p i = true → Ev (fun k => g k ((i : Int) + 1)) no → Ev (fun k => g k i) no)
    (hno : ∀ (i : Nat), i < n → p i = false → Ev (fun k => g k i) no)
    (hend : Ev (fun k => g k n) yes) : Ev (fun k => g k 0) (if (List.range n).all p then yes else no) := by
  have key : ∀ (d i : Nat), i + d = n → Ev (fun k => g k i) (if (List.range' i d).all p then yes else no) := by
    intro d
    induction d with
    | zero => intro i hi; have : i = n := by omega
              subst this; simpa using hend
    | succ d ih =>
      intro i hi
      have h := ih (i + 1) (by omega)
      rw [List.range'_succ, List.all_cons]
      cases e : p i with
      | false => simpa using hno i (by omega) e
      | true =>
        rw [Bool.true_and]
        have e1 : (((i + 1 : Nat) : Int)) = (i : Int) + 1 := by omega
        rw [e1] at h
        cases e2 : (List.range' (i + 1) d).all p with
        | true => rw [e2] at h; exact hstep i (by omega) e h
        | false => rw [e2] at h; exact hstepno i (by omega) e h
  have := key n 0 (by omega)
  rw [← List.range_eq_range'] at this
  exact this
theorem all_range_rd (l : List Int) (q : Int → Bool) : (List.range l.length).all (fun i => q (rd l (i : Int))) = l.all q := by
  rw [Bool.eq_iff_iff]
  simp only [List.all_eq_true, List.mem_range]
  constructor
  · intro h x hx
    obtain ⟨i, hi, rfl⟩ := List.mem_iff_getElem.1 hx
    have := h i hi
    rwa [rd_nat l i hi] at this
  · intro h i hi
    rw [rd_nat l i hi]
    exact h _ (List.getElem_mem hi)
theorem all_range_getD {α : Type} (l : List α) (d : α) (q : α → Bool) : (List.range l.length).all (fun i => q (l.getD i d)) = l.all q := by
  rw [Bool.eq_iff_iff]
  simp only [List.all_eq_true, List.mem_range]
  constructor
  · intro h x hx
    obtain ⟨i, hi, rfl⟩ := List.mem_iff_getElem.1 hx
    have := h i hi
    rwa [List.getD_eq_getElem?_getD, List.getElem?_eq_getElem hi] at this
  · intro h i hi
    rw [List.getD_eq_getElem?_getD, List.getElem?_eq_getElem hi]
    exact h _ (List.getElem_mem hi)
theorem all_ev' {β : Type} (g : Nat → Int → Option β) (n : Nat) (p : Nat → Bool) (yes no : β)
    (hstep : ∀ (i : Nat) (r : β), i < n → p i = true → Ev (fun k => g k ((i : Int) + 1)) r → Ev (fun k => g k i) r)
    (hno : ∀ (i : Nat), i < n → p i = false → Ev (fun k => g k i) no)
    (hend : Ev (fun k => g k n) yes) : Ev (fun k => g k 0) (if (List.range n).all p then yes else no) :=
  all_ev g n p yes no (fun i hi hp h => hstep i yes hi hp h) (fun i hi hp h => hstep i no hi hp h) hno hend
theorem ite_tf (b : Bool) : (if b then true else false) = b := by cases b <;> rfl
theorem copy_ev' {α : Type} (g : Nat → List α → Int → Option (List α)) (src : List α)
    (hstep : ∀ (dst : List α) (i : Nat) (h : i < src.length) (r : List α), dst.length = src.length → Ev (fun k => g k (dst.set i src[i]) ((i : Int) + 1)) r → Ev (fun k => g k dst i) r)
    (hend : ∀ (dst : List α), dst.length = src.length → Ev (fun k => g k dst src.length) dst) (dst : List α) (hd : dst.length = src.length) : Ev (fun k => g k dst 0) src := by
  have key : ∀ (n i : Nat) (dst : List α), i + n = src.length → dst.length = src.length → (∀ (j : Nat) (h : j < src.length), j < i → dst[j]? = some src[j]) → Ev (fun k => g k dst i) src := by
    intro n
    induction n with
    | zero =>
      intro i dst hi hl hp
      have e : dst = src := by
        refine List.ext_getElem? fun j => ?_
        by_cases h : j < src.length
        · rw [hp j h (by omega), List.getElem?_eq_getElem h]
        · rw [List.getElem?_eq_none (by omega), List.getElem?_eq_none (by omega)]
      have hi2 : i = src.length := by omega
      subst hi2
      have := hend dst hl
      rwa [e] at this ⊢
    | succ n ih =>
      intro i dst hi hl hp
      refine hstep dst i (by omega) src hl ?_
      have := ih (i + 1) (dst.set i (src[i]'(by omega))) (by omega) (by rw [List.length_set]; exact hl) (fun j h hj => by
        by_cases e : j = i
        · subst e; rw [List.getElem?_set_self (by omega)]
        · rw [List.getElem?_set_ne (by omega)]; exact hp j h (by omega))
      exact this
  exact key src.length 0 dst (by omega) hd (fun j h hj => by omega)

theorem impl_within_ev (m : Int) (l : List Int) (hm : 0 ≤ m) (hm2 : m ≤ 4611686018427387904) (hl : l.length ≤ 4611686018427387904) : Ev (fun k => impl_within.f k m l) (l.all (fun x => decide (-m ≤ x ∧ x ≤ m))) := by
  unfold impl_within.f
  rw [← ite_tf (l.all _), ← all_range_rd]
  have w : wrap64 (-m) = -m := wid (by omega) (by omega)
  refine all_ev' (fun k i => impl_within.l0 k m l l.length i) l.length (fun i => decide (-m ≤ rd l (i : Int) ∧ rd l (i : Int) ≤ m)) true false ?_ ?_ ?_
  · intro i r hi hp hr
    have hp := of_decide_eq_true hp
    refine Ev.step (f := fun k => impl_within.l0 k m l l.length ((i : Int) + 1)) (fun k => ?_) hr
    simp only [impl_within.l0]
    rw [if_pos (by omega), if_pos (by omega), if_pos (by omega), w, if_neg (by omega), if_neg (by omega), wid (by omega) (by omega)]
  · intro i hi hp
    have hp := of_decide_eq_false hp
    refine Ev.step (f := fun _ => some false) (fun k => ?_) (Ev.now _)
    simp only [impl_within.l0]
    rw [if_pos (by omega), if_pos (by omega), if_pos (by omega), w]
    by_cases h : rd l (i : Int) < -m
    · rw [if_pos h]
    · rw [if_neg h, if_pos (by omega)]
  · exact Ev.step (f := fun _ => some true) (fun k => by simp only [impl_within.l0]; rw [if_neg (by omega)]) (Ev.now _)

theorem impl_determinant_eq {a b c d m : Int} (hm : 0 ≤ m) (hm2 : m ≤ 2000000000) (ha : -m ≤ a ∧ a ≤ m) (hb : -m ≤ b ∧ b ≤ m) (hc : -m ≤ c ∧ c ≤ m) (hd : -m ≤ d ∧ d ≤ m) : impl_determinant.f a b c d = some (a * d - b * c) := by
  have hmm : m * m ≤ 4000000000000000000 := by have := Int.mul_le_mul hm2 hm2 hm (by omega); omega
  obtain ⟨h1, h2⟩ := det_bd hm ha hb hc hd
  unfold impl_determinant.f
  rw [wid (n := a * d) (by omega) (by omega), wid (n := b * c) (by omega) (by omega), wid (by omega) (by omega)]
theorem spec_l04Det_eq {a b c d m : Int} (hm : 0 ≤ m) (hm2 : m ≤ 2000000000) (ha : -m ≤ a ∧ a ≤ m) (hb : -m ≤ b ∧ b ≤ m) (hc : -m ≤ c ∧ c ≤ m) (hd : -m ≤ d ∧ d ≤ m) : spec_l04Det.f a b c d = some (a * d - b * c) := by
  have hmm : m * m ≤ 4000000000000000000 := by have := Int.mul_le_mul hm2 hm2 hm (by omega); omega
  obtain ⟨h1, h2⟩ := det_bd hm ha hb hc hd
  unfold spec_l04Det.f
  rw [wid (n := a * d) (by omega) (by omega), wid (n := b * c) (by omega) (by omega), wid (by omega) (by omega)]
def g4 (a b c d : Int) : Int := (Int.gcd (Int.gcd a b : Int) (Int.gcd c d : Int) : Int)
structure M4 where
  a : Int
  b : Int
  c : Int
  d : Int
def M4.det (g : M4) : Int := g.a * g.d - g.b * g.c
def M4.mul (g h : M4) : M4 := ⟨g.a * h.a + g.b * h.c, g.a * h.b + g.b * h.d, g.c * h.a + g.d * h.c, g.c * h.b + g.d * h.d⟩
def M4.fit (g : M4) : Bool := entB g.a && (entB g.b && (entB g.c && entB g.d))
def M4.ok (g : M4) : Bool := matB g.a g.b g.c g.d
def M4.one : M4 := ⟨1, 0, 0, 1⟩
theorem M4.ext' {g h : M4} (h1 : g.a = h.a) (h2 : g.b = h.b) (h3 : g.c = h.c) (h4 : g.d = h.d) : g = h := by cases g; cases h; simp_all
theorem M4.ok_det {g : M4} (h : g.ok = true) : g.det ≠ 0 := by
  unfold M4.ok matB at h; rw [Bool.and_eq_true] at h
  have := h.2
  unfold M4.det
  intro e; rw [e] at this; simp at this
theorem M4.ok_fit {g : M4} (h : g.ok = true) : g.fit = true := by
  unfold M4.ok matB at h; rw [Bool.and_eq_true] at h; exact h.1
theorem M4.fit_bd {g : M4} (h : g.fit = true) : (-1000 ≤ g.a ∧ g.a ≤ 1000) ∧ (-1000 ≤ g.b ∧ g.b ≤ 1000) ∧ (-1000 ≤ g.c ∧ g.c ≤ 1000) ∧ (-1000 ≤ g.d ∧ g.d ≤ 1000) := by
  unfold M4.fit at h; simp only [Bool.and_eq_true] at h
  exact ⟨⟨ent_lo h.1, ent_hi h.1⟩, ⟨ent_lo h.2.1, ent_hi h.2.1⟩, ⟨ent_lo h.2.2.1, ent_hi h.2.2.1⟩, ⟨ent_lo h.2.2.2, ent_hi h.2.2.2⟩⟩
theorem M4.one_mul (g : M4) : M4.one.mul g = g := by apply M4.ext' <;> simp [M4.mul, M4.one]
theorem mulS' {x y M N : Int} (hx : -M ≤ x ∧ x ≤ M) (hy : -N ≤ y ∧ y ≤ N) (hM : 0 ≤ M) (hN : 0 ≤ N) : -(M * N) ≤ x * y ∧ x * y ≤ M * N := mul_bd hx.1 hx.2 hy.1 hy.2 hM hN
theorem moveBall_both {p L T D : Int} {a b c d : Int} (h : ballB p L T D = true) (hg : matB a b c d = true) : ∃ r : Int × Int × Int × Bool,
    Ev (fun k => impl_moveBall.f k p a b c d L T D) r ∧ Ev (fun k => spec_l04Move.f k p a b c d L T D) r ∧ (r.2.2.2 = true → ballB p r.1 r.2.1 r.2.2.1 = true) := by
  obtain ⟨hp, hL, hD, _, _⟩ := ball_parts h
  have hp2 := prime_lo hp
  have hT := ball_num h
  have hX := mark_lt h
  have hX2 := pow_13 hp (L + 6).toNat (by omega)
  have hsz0 := ipow_pos (p := p) (by omega) (L + 6).toNat
  have hok : (M4.mk a b c d).ok = true := hg
  obtain ⟨g1, g2, g3, g4⟩ := M4.fit_bd (M4.ok_fit hok)
  simp only at g1 g2 g3 g4
  have hdet : a * d - b * c ≠ 0 := M4.ok_det hok
  obtain ⟨db1, db2⟩ := det_bd (m := 1000) (by omega) g1 g2 g3 g4
  obtain ⟨t, ht⟩ : ∃ t : Nat, (t : Int) = mx D (-L) := ⟨(mx D (-L)).toNat, by rw [mx_eq']; split <;> omega⟩
  have ht2 : (t : Int) = if D < -L then -L else D := by rw [ht, mx_eq']
  have t6 : t ≤ 6 ∧ D ≤ t ∧ 0 ≤ L + t := by split at ht2 <;> omega
  have p6 := pow_6 hp 6 (by omega)
  have p60 := ipow_pos (p := p) (by omega) 6
  have pt := pow_6 hp t (by omega)
  have pt0 := ipow_pos (p := p) (by omega) t
  have pL := pow_13 hp (L + t).toNat (by omega)
  have pL0 := ipow_pos (p := p) (by omega) (L + t).toNat
  have sc0 := ipow_pos (p := p) (by omega) (6 - t)
  have hps : p ^ (6 - t) ≠ 0 := by omega
  have eX : markOf p T D = p ^ (6 - t) * (T * p ^ ((t : Int) - D).toNat) := by
    unfold markOf
    rw [show (6 - D).toNat = (6 - t) + ((t : Int) - D).toNat from by omega, Int.pow_add]; grind
  have e6 : p ^ 6 = p ^ (6 - t) * p ^ t := by rw [← Int.pow_add]; congr 1; omega
  have eS : p ^ (L + 6).toNat = p ^ (6 - t) * p ^ (L + t).toNat := by rw [← Int.pow_add]; congr 1; omega
  have pd0 := ipow_pos (p := p) (by omega) ((t : Int) - D).toNat
  have pd1 := pow_6 hp ((t : Int) - D).toNat (by omega)
  obtain ⟨Y, hY⟩ : ∃ Y, Y = T * p ^ ((t : Int) - D).toNat := ⟨_, rfl⟩
  have hY0 : 0 ≤ Y := by rw [hY]; exact Int.mul_nonneg hT.1 (by omega)
  rw [← hY] at eX
  have hY1 : Y ≤ markOf p T D := by
    rw [eX]
    have := Int.mul_le_mul_of_nonneg_right sc0 hY0
    omega
  have aP := mulS' (M := 1000) (N := 13841287201) g1 (y := p ^ (L + t).toNat) (by omega) (by omega) (by omega)
  have cP := mulS' (M := 1000) (N := 13841287201) g3 (y := p ^ (L + t).toNat) (by omega) (by omega) (by omega)
  have aY := mulS' (M := 1000) (N := 13841287201) g1 (y := Y) (by omega) (by omega) (by omega)
  have cY := mulS' (M := 1000) (N := 13841287201) g3 (y := Y) (by omega) (by omega) (by omega)
  have bt := mulS' (M := 1000) (N := 117649) g2 (y := p ^ t) (by omega) (by omega) (by omega)
  have dt := mulS' (M := 1000) (N := 117649) g4 (y := p ^ t) (by omega) (by omega) (by omega)
  have aS := mulS' (M := 1000) (N := 13841287201) g1 (y := p ^ (L + 6).toNat) (by omega) (by omega) (by omega)
  have cS := mulS' (M := 1000) (N := 13841287201) g3 (y := p ^ (L + 6).toNat) (by omega) (by omega) (by omega)
  have aX := mulS' (M := 1000) (N := 13841287201) g1 (y := markOf p T D) (by omega) (by omega) (by omega)
  have cX := mulS' (M := 1000) (N := 13841287201) g3 (y := markOf p T D) (by omega) (by omega) (by omega)
  have b6 := mulS' (M := 1000) (N := 117649) g2 (y := p ^ 6) (by omega) (by omega) (by omega)
  have d6 := mulS' (M := 1000) (N := 117649) g4 (y := p ^ 6) (by omega) (by omega) (by omega)
  have vdet := val_le_of_lt hp2 hdet 22 (by omega)
  have core : ∀ n e N E : Int, e ≠ 0 → N = p ^ (6 - t) * n → E = p ^ (6 - t) * e → (-20000000000000 ≤ n ∧ n ≤ 20000000000000) → (-20000000000000 ≤ e ∧ e ≤ 20000000000000) → (-20000000000000 ≤ N ∧ N ≤ 20000000000000) → (-20000000000000 ≤ E ∧ E ≤ 20000000000000) →
      ∃ r : Int × Int × Int × Bool, Ev (fun k => impl_moveBall.j0 k p a b c d L T D N E) r ∧ Ev (fun k => spec_l04Move.j1 k p t a b c d L T D n e) r ∧ (r.2.2.2 = true → ballB p r.1 r.2.1 r.2.2.1 = true) := by
    intro n e N E he hN hE bn be bN bE
    have hE0 : E ≠ 0 := by rw [hE]; exact Int.mul_ne_zero hps he
    have ve := val_le_of_lt hp2 he 50 (by omega)
    have vE : (val p E : Int) = (6 - t) + (val p e : Int) := by rw [hE, val_pow_mul _ hp2 he]; omega
    obtain ⟨lv, hlv⟩ : ∃ lv, lv = (val p (a * d - b * c) : Int) + L + 2 * (t : Int) - 2 * (val p e : Int) := ⟨_, rfl⟩
    obtain ⟨w, hw, ew⟩ := impl_ballAt_ev (p := p) (n := N) (d := E) (L := lv) hp hE0 (by omega) (by omega) (by omega) (by omega)
    rw [hE, uOf_scale _ hp2 he] at hw
    have ew' := spec_l01Of_ev (p := p) (n := n) (d := e) (L := lv) (w := w) hp he (by omega) (by omega) (by omega) (by omega) hw
    have hball := atF_ball (p := p) (L := lv) (n := n) (d := e) (w := w) hp
    have hs : atF p lv N E w = atF p lv n e w := by rw [hN, hE]; exact atF_scale _ hp2 he
    rw [hs] at ew
    refine ⟨atF p lv n e w, Ev.up ?_, Ev.up ?_, hball⟩
    · simp only [impl_moveBall.j0]
      refine Ev.bindv (impl_determinant_eq (m := 1000) (by omega) (by omega) g1 g2 g3 g4) ?_
      refine Ev.bind (impl_valuation_ev hp2 (by omega) (by omega)) (Ev.bind (impl_valuation_ev hp2 (by omega) (by omega)) ?_)
      have v1 : valW p (a * d - b * c) = (val p (a * d - b * c) : Int) := by unfold valW; rw [if_neg hdet]
      have v2 : valW p E = (6 - t) + (val p e : Int) := by unfold valW; rw [if_neg hE0, vE]
      rw [v1, v2, wid (n := (val p (a * d - b * c) : Int) + L) (by omega) (by omega), wid (n := (val p (a * d - b * c) : Int) + L + 12) (by omega) (by omega), wid (n := 2 * (6 - (t : Int) + (val p e : Int))) (by omega) (by omega), wid (n := (val p (a * d - b * c) : Int) + L + 12 - 2 * (6 - (t : Int) + (val p e : Int))) (by omega) (by omega), show (val p (a * d - b * c) : Int) + L + 12 - 2 * (6 - (t : Int) + (val p e : Int)) = lv from by omega]
      exact Ev.bind ew (Ev.now _)
    · simp only [spec_l04Move.j1]
      refine Ev.bindv (spec_l04Det_eq (m := 1000) (by omega) (by omega) g1 g2 g3 g4) ?_
      refine Ev.bind (spec_l01Val_ev hp2 hdet (by omega) (by omega)) (Ev.bind (spec_l01Val_ev hp2 he (by omega) (by omega)) ?_)
      rw [wid (n := (val p (a * d - b * c) : Int) + L) (by omega) (by omega), wid (n := 2 * (t : Int)) (by omega) (by omega), wid (n := (val p (a * d - b * c) : Int) + L + 2 * (t : Int)) (by omega) (by omega), wid (n := 2 * (val p e : Int)) (by omega) (by omega), wid (n := (val p (a * d - b * c) : Int) + L + 2 * (t : Int) - 2 * (val p e : Int)) (by omega) (by omega), ← hlv]
      exact Ev.bind ew' (Ev.now _)
  have eU0 : a * p ^ (L + 6).toNat = p ^ (6 - t) * (a * p ^ (L + t).toNat) := by rw [eS]; grind
  have eU1 : c * p ^ (L + 6).toNat = p ^ (6 - t) * (c * p ^ (L + t).toNat) := by rw [eS]; grind
  have eV0 : a * markOf p T D + b * p ^ 6 = p ^ (6 - t) * (a * Y + b * p ^ t) := by rw [eX, e6]; grind
  have eV1 : c * markOf p T D + d * p ^ 6 = p ^ (6 - t) * (c * Y + d * p ^ t) := by rw [eX, e6]; grind
  have coreU : c * p ^ (L + t).toNat ≠ 0 → _ := fun hu => core (a * p ^ (L + t).toNat) (c * p ^ (L + t).toNat) (a * p ^ (L + 6).toNat) (c * p ^ (L + 6).toNat) hu eU0 eU1 (by omega) (by omega) (by omega) (by omega)
  have coreV : c * Y + d * p ^ t ≠ 0 → _ := fun hv => core (a * Y + b * p ^ t) (c * Y + d * p ^ t) (a * markOf p T D + b * p ^ 6) (c * markOf p T D + d * p ^ 6) hv eV0 eV1 (by omega) (by omega) (by omega) (by omega)
  obtain ⟨u1, hu1⟩ : ∃ x, x = c * p ^ (L + t).toNat := ⟨_, rfl⟩
  obtain ⟨v1, hv1⟩ : ∃ x, x = c * Y + d * p ^ t := ⟨_, rfl⟩
  have impl_of : ∀ r, (valW p (c * markOf p T D + d * p ^ 6) > valW p (c * p ^ (L + 6).toNat) → Ev (fun k => impl_moveBall.j0 k p a b c d L T D (a * p ^ (L + 6).toNat) (c * p ^ (L + 6).toNat)) r) → (¬ valW p (c * markOf p T D + d * p ^ 6) > valW p (c * p ^ (L + 6).toNat) → Ev (fun k => impl_moveBall.j0 k p a b c d L T D (a * markOf p T D + b * p ^ 6) (c * markOf p T D + d * p ^ 6)) r) → Ev (fun k => impl_moveBall.f k p a b c d L T D) r := by
    intro r hr1 hr2
    unfold impl_moveBall.f
    rw [wid (n := L + 6) (by omega) (by omega)]
    refine Ev.bind (impl_mark_ev h) (Ev.bind (impl_power_ev p 6 (by omega)) (Ev.bind (impl_power_ev p (L + 6) (by omega)) ?_))
    rw [show (6 : Int).toNat = 6 from rfl, powW_prime hp 6 (by omega), powW_prime hp _ (by omega)]
    rw [wid (n := a * markOf p T D) (by omega) (by omega), wid (n := b * p ^ 6) (by omega) (by omega), wid (n := c * markOf p T D) (by omega) (by omega), wid (n := d * p ^ 6) (by omega) (by omega), wid (n := a * markOf p T D + b * p ^ 6) (by omega) (by omega), wid (n := c * markOf p T D + d * p ^ 6) (by omega) (by omega), wid (n := a * p ^ (L + 6).toNat) (by omega) (by omega), wid (n := c * p ^ (L + 6).toNat) (by omega) (by omega)]
    refine Ev.bind (impl_valuation_ev hp2 (by omega) (by omega)) (Ev.bind (impl_valuation_ev hp2 (by omega) (by omega)) ?_)
    by_cases hc : valW p (c * markOf p T D + d * p ^ 6) > valW p (c * p ^ (L + 6).toNat)
    · simp only [if_pos hc]; exact hr1 hc
    · simp only [if_neg hc]; exact hr2 hc
  have spec_of : ∀ r, Ev (fun k => if v1 = 0 then spec_l04Move.j0 k p t true a b c d L T D (a * p ^ (L + t).toNat) u1 (a * Y + b * p ^ t) v1 else if u1 = 0 then spec_l04Move.j0 k p t false a b c d L T D (a * p ^ (L + t).toNat) u1 (a * Y + b * p ^ t) v1 else (spec_l01Val.f k p v1).bind fun x => (spec_l01Val.f k p u1).bind fun y => spec_l04Move.j0 k p t (decide (x > y)) a b c d L T D (a * p ^ (L + t).toNat) u1 (a * Y + b * p ^ t) v1) r → Ev (fun k => spec_l04Move.f k p a b c d L T D) r := by
    intro r hr
    unfold spec_l04Move.f
    rw [wid (n := -L) (by omega) (by omega), ← ht, wid (n := L + (t : Int)) (by omega) (by omega), wid (n := (t : Int) - D) (by omega) (by omega)]
    refine Ev.bind (spec_l01Power_ev p (L + t) (by omega)) (Ev.bind (spec_l01Power_ev p t (by omega)) (Ev.bind (spec_l01Power_ev p ((t : Int) - D) (by omega)) ?_))
    rw [powW_prime hp _ (by omega), Int.toNat_natCast, powW_prime hp t (by omega), powW_prime hp _ (by omega)]
    rw [← hY, wid (n := Y) (by omega) (by omega), wid (n := a * Y) (by omega) (by omega), wid (n := b * p ^ t) (by omega) (by omega), wid (n := c * Y) (by omega) (by omega), wid (n := d * p ^ t) (by omega) (by omega), wid (n := a * Y + b * p ^ t) (by omega) (by omega), wid (n := c * Y + d * p ^ t) (by omega) (by omega), wid (n := a * p ^ (L + t).toNat) (by omega) (by omega), wid (n := c * p ^ (L + t).toNat) (by omega) (by omega), ← hu1, ← hv1]
    exact hr
  rw [← hu1] at coreU eU1 cP
  rw [← hv1] at coreV eV1
  rw [eU1, eV1] at impl_of
  rw [eU1] at coreU
  rw [eV1] at coreV
  have vu : ∀ x, x ≠ 0 → valW p (p ^ (6 - t) * x) = (6 - t) + (val p x : Int) := fun x hx => by unfold valW; rw [if_neg (Int.mul_ne_zero hps hx), val_pow_mul _ hp2 hx]; omega
  have v0 : valW p (p ^ (6 - t) * 0) = 1000 := by unfold valW; rw [if_pos (Int.mul_zero _)]
  by_cases hv : v1 = 0
  · have hu : u1 ≠ 0 := by
      intro e
      rw [hu1] at e
      have hc : c = 0 := by
        rcases Int.mul_eq_zero.1 e with e | e
        · exact e
        · omega
      rw [hv1, hc, Int.zero_mul, Int.zero_add] at hv
      have hd : d = 0 := by
        rcases Int.mul_eq_zero.1 hv with e | e
        · exact e
        · omega
      apply hdet; rw [hc, hd]; omega
    have vb := val_le_of_lt hp2 hu 50 (by omega)
    obtain ⟨r, r1, r2, r3⟩ := coreU hu
    refine ⟨r, impl_of r (fun _ => r1) (fun hn => absurd ?_ hn), spec_of r ?_, r3⟩
    · rw [hv, v0, vu u1 hu]; omega
    · simp only [if_pos hv]
      refine Ev.up ?_
      simp only [spec_l04Move.j0, if_true]
      exact r2
  by_cases hu : u1 = 0
  · have vb := val_le_of_lt hp2 hv 50 (by omega)
    obtain ⟨r, r1, r2, r3⟩ := coreV hv
    refine ⟨r, impl_of r (fun hn => absurd hn ?_) (fun _ => r1), spec_of r ?_, r3⟩
    · rw [hu, v0, vu v1 hv]; omega
    · simp only [if_neg hv, if_pos hu]
      refine Ev.up ?_
      simp only [spec_l04Move.j0, Bool.false_eq_true, if_false]
      exact r2
  have hx := vu u1 hu
  have hy := vu v1 hv
  have sv := spec_l01Val_ev hp2 hv (by omega) (by omega)
  have su := spec_l01Val_ev hp2 hu (by omega) (by omega)
  by_cases hc : val p v1 > val p u1
  · obtain ⟨r, r1, r2, r3⟩ := coreU hu
    refine ⟨r, impl_of r (fun _ => r1) (fun hn => absurd (by omega) hn), spec_of r ?_, r3⟩
    simp only [if_neg hv, if_neg hu]
    refine Ev.bind sv (Ev.bind su ?_)
    rw [decide_eq_true (show (val p v1 : Int) > (val p u1 : Int) by omega)]
    refine Ev.up ?_
    simp only [spec_l04Move.j0, if_true]
    exact r2
  · obtain ⟨r, r1, r2, r3⟩ := coreV hv
    refine ⟨r, impl_of r (fun hn => absurd hn (by omega)) (fun _ => r1), spec_of r ?_, r3⟩
    simp only [if_neg hv, if_neg hu]
    refine Ev.bind sv (Ev.bind su ?_)
    rw [decide_eq_false (show ¬ (val p v1 : Int) > (val p u1 : Int) by omega)]
    refine Ev.up ?_
    simp only [spec_l04Move.j0, Bool.false_eq_true, if_false]
    exact r2

def holdsB (p L T D L' T' D' : Int) : Bool := decide (L ≤ L') && ((markOf p T' D' - markOf p T D) % p ^ (L + 6).toNat == 0)
theorem holds_iff {p L T D T' D' : Int} (h : ballB p L T D = true) : ofM p L (markOf p T' D') = (L, T, D) ↔ (markOf p T' D' - markOf p T D) % p ^ (L + 6).toNat = 0 := by
  have hp2 := prime_lo (ball_parts h).1
  rw [← ofM_mark h, ofM_inj hp2]
  exact Int.emod_eq_emod_iff_emod_sub_eq_zero

theorem impl_holds_ev {p L T D L' T' D' : Int} (h : ballB p L T D = true) (h' : ballB p L' T' D' = true) : Ev (fun k => impl_holds.f k p L T D L' T' D') (holdsB p L T D L' T' D') := by
  obtain ⟨hp, hL, _⟩ := ball_parts h
  have hp2 := prime_lo hp
  have hL' := (ball_parts h').2.1
  obtain ⟨a0, a1⟩ := mark_lt h
  obtain ⟨b0, b1⟩ := mark_lt h'
  have m2 := pow_13 hp (L + 6).toNat (by omega)
  have m2' := pow_13 hp (L' + 6).toNat (by omega)
  have m1 := ipow_pos (p := p) (by omega) (L + 6).toNat
  unfold impl_holds.f holdsB
  by_cases hle : L ≤ L'
  · simp only [if_pos hle, decide_eq_true hle, Bool.true_and]
    refine Ev.bind (impl_mark_ev h') (Ev.bind (impl_mark_ev h) ?_)
    rw [wid (n := L + 6) (by omega) (by omega)]
    refine Ev.bind (impl_power_ev p _ (by omega)) ?_
    rw [powW_prime hp _ (by omega), wid (n := markOf p T' D' - markOf p T D) (by omega) (by omega)]
    simp only [if_neg (show ¬ p ^ (L + 6).toNat = 0 by omega)]
    rw [show (Int.tmod (markOf p T' D' - markOf p T D) (p ^ (L + 6).toNat) == 0) = ((markOf p T' D' - markOf p T D) % p ^ (L + 6).toNat == 0) from by
      rw [Bool.eq_iff_iff, beq_iff_eq, beq_iff_eq, ← Int.dvd_iff_tmod_eq_zero, ← Int.dvd_iff_emod_eq_zero]]
    exact Ev.now _
  · simp only [if_neg hle, decide_eq_false hle, Bool.false_and]; exact Ev.now _

theorem spec_l01InvMod_one {m : Int} (hm : 2 ≤ m) (hm2 : m ≤ 100000000000) : Ev (fun k => spec_l01InvMod.f k 1 m) 1 := by
  have h1 : Int.tmod (wrap64 (Int.tmod 1 m + m)) m = 1 := by rw [modW (by omega) (by omega)]; exact Int.emod_eq_of_lt (by omega) (by omega)
  refine Ev.congr (f := fun k => spec_l01InvMod.l0 k m 1 m 1 0) (fun k => by unfold spec_l01InvMod.f; rw [if_neg (by omega), h1]) ?_
  have q0 : Int.tdiv 1 m = 0 := by rw [tdiv_cast (by omega)]; exact Int.ediv_eq_zero_of_lt (by omega) (by omega)
  have q1 : Int.tdiv m 1 = m := Int.tdiv_one m
  have z0 : wrap64 0 = 0 := wid (by omega) (by omega)
  have z1 : wrap64 1 = 1 := wid (by omega) (by omega)
  refine Ev.step (f := fun k => spec_l01InvMod.l0 k m m 1 0 1) (fun k => ?_) ?_
  · simp only [spec_l01InvMod.l0]
    rw [if_neg (by omega), q0, z0, Int.zero_mul, z0, Int.sub_zero, z1, Int.mul_zero, z0, Int.sub_zero, z1]
  refine Ev.step (f := fun k => spec_l01InvMod.l0 k m 1 0 1 (-m)) (fun k => ?_) ?_
  · simp only [spec_l01InvMod.l0]
    rw [if_neg (by omega), q1, wid (n := m) (by omega) (by omega), Int.mul_one, wid (n := m) (by omega) (by omega), Int.sub_self, z0, Int.zero_sub, wid (n := -m) (by omega) (by omega)]
  refine Ev.step (f := fun _ => some 1) (fun k => ?_) (Ev.now _)
  simp only [spec_l01InvMod.l0]
  rw [if_pos trivial, if_neg (by omega), h1]

theorem mx_eq (a b : Int) : mx a b = if a < b then b else a := rfl
theorem spec_l01Of_pow {p num L : Int} (D : Nat) (hp : primeB p = true) (hD : D ≤ 6) (h1 : -1152921504606846976 ≤ num) (h2 : num ≤ 1152921504606846976) (hL : -6 ≤ L ∧ L ≤ 6) :
    Ev (fun k => spec_l01Of.f k p num (p ^ D) L) ((ofM p L (num * p ^ (6 - D))).1, (ofM p L (num * p ^ (6 - D))).2.1, (ofM p L (num * p ^ (6 - D))).2.2, true) := by
  have hp2 := prime_lo hp
  have hpow : ∀ j : Nat, p ^ j ≠ 0 := fun j => Int.pow_ne_zero (by omega)
  have hpD := pow_13 hp D (by omega)
  have hpD1 := ipow_pos (p := p) (by omega) D
  unfold spec_l01Of.f
  refine Ev.bindv (In_eq _ _ _) ?_
  rw [decide_eq_true hL]
  simp only [if_true]
  by_cases h0 : num = 0
  · simp only [if_pos h0]
    have e : ofM p L (num * p ^ (6 - D)) = (L, 0, 0) := by
      rw [h0, Int.zero_mul]; exact ofM_of hp2 (by simp) (by omega) (.inl rfl)
    rw [e]; exact Ev.now _
  simp only [if_neg h0]
  have hvD : val p (p ^ D) = D := val_eq hp2 (u := 1) (by simp) (fun h => by have := Int.le_of_dvd (by omega) h; omega)
  have hv60 := val_le_of_lt hp2 h0 61 (by omega)
  refine Ev.bind (spec_l01Val_ev hp2 h0 (by omega) (by omega)) (Ev.bind (spec_l01Val_ev hp2 (hpow D) (by omega) (by omega)) ?_)
  rw [hvD]
  obtain ⟨u, hu, hn⟩ := val_spec hp2 h0
  generalize hv : val p num = v at *
  rw [wid (n := (v : Int) - (D : Int)) (by omega) (by omega), wid (n := (D : Int) - (v : Int)) (by omega) (by omega)]
  have hX : num * p ^ (6 - D) = p ^ (v + (6 - D)) * u := by
    rw [hu, Int.pow_add, Int.mul_assoc, Int.mul_assoc, Int.mul_comm u]
  by_cases hle : L ≤ (v : Int) - (D : Int)
  · simp only [if_pos hle]
    have e : ofM p L (num * p ^ (6 - D)) = (L, 0, 0) := by
      refine ofM_of hp2 ?_ (by omega) (.inl rfl)
      rw [hX, Int.zero_mul, show v + (6 - D) = (L + 6).toNat + (v + (6 - D) - (L + 6).toNat) from by omega, Int.pow_add, Int.mul_assoc]
      exact Int.mul_emod_right _ _
    rw [e]; exact Ev.now _
  simp only [if_neg hle]
  obtain ⟨dn, hdn⟩ : ∃ dn : Nat, (dn : Int) = mx ((D : Int) - (v : Int)) 0 := ⟨D - v, by rw [mx_eq]; split <;> omega⟩
  have hdn2 : (dn : Int) = if (D : Int) - v < 0 then 0 else (D : Int) - v := by rw [hdn, mx_eq]
  rw [← hdn]
  have hdn6 : dn ≤ D := by split at hdn2 <;> omega
  have hmp : 1 ≤ L + dn := by split at hdn2 <;> omega
  have hmp2 : (L + dn).toNat ≤ 12 := by omega
  simp only [if_neg (show ¬ (dn : Int) > 6 by omega)]
  rw [wid (n := L + (dn : Int)) (by omega) (by omega)]
  refine Ev.bind (spec_l01Power_ev p (L + dn) (by omega)) ?_
  rw [powW_prime hp _ (by omega)]
  have hu0 : u ≠ 0 := by intro e; rw [e] at hn; exact hn (Int.dvd_zero p)
  have hpv1 := ipow_pos (p := p) (by omega) v
  have hpv : p ^ v ≤ 1152921504606846976 := by
    have : num.natAbs = (p ^ v).natAbs * u.natAbs := by rw [← Int.natAbs_mul, ← hu]
    have h3 : (p ^ v).natAbs * 1 ≤ (p ^ v).natAbs * u.natAbs := Nat.mul_le_mul_left _ (by omega)
    omega
  have hub : -1152921504606846976 ≤ u ∧ u ≤ 1152921504606846976 := by
    have : num.natAbs = (p ^ v).natAbs * u.natAbs := by rw [← Int.natAbs_mul, ← hu]
    have h3 : 1 * u.natAbs ≤ (p ^ v).natAbs * u.natAbs := Nat.mul_le_mul_right _ (by omega)
    omega
  have pv : powW p v 1 = p ^ v := by rw [powW_fit p (by omega) v 1 (by omega) (by omega), Int.one_mul]
  refine Ev.bind (spec_l01Power_ev p v (by omega)) ?_
  rw [Int.toNat_natCast, pv]
  simp only [if_neg (hpow v)]
  refine Ev.bind (spec_l01Power_ev p D (by omega)) ?_
  rw [Int.toNat_natCast, powW_prime hp D (by omega)]
  simp only [if_neg (hpow D)]
  rw [Int.tdiv_self (hpow D), show wrap64 1 = 1 from wid (by omega) (by omega)]
  have hm1 : p ^ (L + (dn : Int)).toNat ≤ 13841287201 := pow_13 hp _ hmp2
  have hm0 : 2 ≤ p ^ (L + (dn : Int)).toNat := by
    have := ipow_mono (p := p) (by omega) (show 1 ≤ (L + (dn : Int)).toNat by omega)
    rw [Int.pow_one] at this; omega
  refine Ev.bind (spec_l01InvMod_one hm0 (by omega)) ?_
  have hq : Int.tdiv num (p ^ v) = u := by
    conv => lhs; lhs; rw [hu]
    exact Int.mul_tdiv_cancel_left _ (hpow v)
  rw [hq, wid (n := u) (by omega) (by omega)]
  refine Ev.bindv (spec_l01MulMod_eq (by omega) (by omega)) ?_
  rw [Int.mul_one]
  obtain ⟨e, he⟩ : ∃ e : Nat, (e : Int) = mx ((v : Int) - (D : Int)) 0 := ⟨v - D, by rw [mx_eq]; split <;> omega⟩
  have he2 : (e : Int) = if (v : Int) - D < 0 then 0 else (v : Int) - D := by rw [he, mx_eq]
  rw [← he]
  have hev : e ≤ v := by split at he2 <;> omega
  have hpe : p ^ e ≤ p ^ v := ipow_mono (by omega) hev
  refine Ev.bind (spec_l01Power_ev p e (by omega)) ?_
  rw [Int.toNat_natCast, powW_fit p (by omega) e 1 (by omega) (by omega), Int.one_mul]
  refine Ev.bindv (spec_l01MulMod_eq (by omega) (by omega)) ?_
  have hT : u % p ^ (L + (dn : Int)).toNat * p ^ e % p ^ (L + (dn : Int)).toNat = u * p ^ e % p ^ (L + (dn : Int)).toNat := by rw [emod_mul_emod']
  rw [hT]
  have hexp : v + (6 - D) = (6 - (dn : Int)).toNat + e := by split at hdn2 <;> split at he2 <;> omega
  have hexp2 : (L + 6).toNat = (6 - (dn : Int)).toNat + (L + (dn : Int)).toNat := by omega
  have key : ofM p L (num * p ^ (6 - D)) = (L, u * p ^ e % p ^ (L + (dn : Int)).toNat, (dn : Int)) := by
    refine ofM_of hp2 ?_ (by omega) ?_
    · rw [hX, hexp, hexp2, Int.pow_add, Int.pow_add, Int.mul_assoc, Int.mul_emod_mul_of_pos _ _ (Int.lt_of_lt_of_le (by omega) (ipow_pos (p := p) (by omega) _)), Int.mul_comm (p ^ e) u, Int.mul_comm]
    · by_cases hz : dn = 0
      · left; omega
      · right
        have e0 : e = 0 := by split at hdn2 <;> split at he2 <;> omega
        rw [e0, Int.pow_zero, Int.mul_one]
        intro hd
        apply hn
        have hpm : p ∣ p ^ (L + (dn : Int)).toNat := by
          obtain ⟨j, hj⟩ : ∃ j, (L + (dn : Int)).toNat = j + 1 := ⟨(L + (dn : Int)).toNat - 1, by omega⟩
          rw [hj, Int.pow_succ']; exact Int.dvd_mul_right _ _
        have := Int.dvd_add hd (Int.dvd_trans hpm (Int.dvd_mul_right (p ^ (L + (dn : Int)).toNat) (u / p ^ (L + (dn : Int)).toNat)))
        rwa [Int.emod_add_mul_ediv] at this
  rw [key]
  exact Ev.now _
theorem spec_l01Holds_ev {p L T D L' T' D' : Int} (h : ballB p L T D = true) (h' : ballB p L' T' D' = true) : Ev (fun k => spec_l01Holds.f k p L T D L' T' D') (holdsB p L T D L' T' D') := by
  obtain ⟨hp, hL, hD, _⟩ := ball_parts h
  obtain ⟨_, hL', hD', _⟩ := ball_parts h'
  have hT' := ball_num h'
  unfold spec_l01Holds.f holdsB
  by_cases hle : L ≤ L'
  · simp only [if_neg (show ¬ L > L' by omega), decide_eq_true hle, Bool.true_and]
    refine Ev.bind (spec_l01Power_ev p D' (by omega)) ?_
    rw [powW_prime hp _ (by omega)]
    have := spec_l01Of_pow (num := T') D'.toNat hp (by omega) (by omega) (by omega) hL
    rw [show 6 - D'.toNat = (6 - D').toNat from by omega] at this
    refine Ev.bind this ?_
    simp only [if_true]
    rw [show ((ofM p L (T' * p ^ (6 - D').toNat)).1 == L && ((ofM p L (T' * p ^ (6 - D').toNat)).2.1 == T && (ofM p L (T' * p ^ (6 - D').toNat)).2.2 == D)) = ((markOf p T' D' - markOf p T D) % p ^ (L + 6).toNat == 0) from by
      rw [Bool.eq_iff_iff]
      simp only [Bool.and_eq_true, beq_iff_eq]
      rw [← holds_iff h]
      show _ ↔ ofM p L (T' * p ^ (6 - D').toNat) = (L, T, D)
      constructor
      · rintro ⟨e1, e2, e3⟩; exact Prod.ext e1 (Prod.ext e2 e3)
      · intro e; rw [e]; exact ⟨rfl, rfl, rfl⟩]
    exact Ev.now _
  · simp only [if_pos (show L > L' by omega), decide_eq_false hle, Bool.false_and]; exact Ev.now _

theorem spec_l01Prime_eq (p : Int) : spec_l01Prime.f p = some (primeB p) := by
  unfold spec_l01Prime.f primeB
  by_cases h2 : p = 2
  · simp [h2]
  · by_cases h3 : p = 3
    · simp [h3]
    · by_cases h5 : p = 5
      · simp [h5]
      · rw [if_neg h2, if_neg h3, if_neg h5, beq_eq_false_iff_ne.2 h2, beq_eq_false_iff_ne.2 h3, beq_eq_false_iff_ne.2 h5]; rfl

theorem spec_l01Is_ev (p L T D : Int) : Ev (fun k => spec_l01Is.f k p L T D) (ballB p L T D) := by
  have hno : Ev (fun k => spec_l01Is.j0 k p true L T D) false := Ev.step (f := fun _ => some false) (fun k => by simp only [spec_l01Is.j0, if_true]) (Ev.now _)
  unfold spec_l01Is.f
  refine Ev.bindv (spec_l01Prime_eq p) ?_
  unfold ballB
  cases hp : primeB p with
  | false => simpa using hno
  | true =>
    have hp2 := prime_lo hp
    simp only [if_true, Bool.true_and]
    refine Ev.bindv (In_eq L (-6) 6) ?_
    by_cases hL : -6 ≤ L ∧ L ≤ 6
    · rw [decide_eq_true hL]; simp only [if_true, Bool.true_and]
      refine Ev.bindv (In_eq D 0 6) ?_
      by_cases hD : 0 ≤ D ∧ D ≤ 6
      · rw [decide_eq_true hD]; simp only [Bool.not_true, Bool.true_and]
        have hn := wid (n := L + D) (by omega) (by omega)
        by_cases h0 : L + D ≤ 0
        · rw [if_pos h0]
          refine Ev.step (f := fun _ => some (T == 0 && D == 0)) (fun k => ?_) (Ev.now _)
          simp only [spec_l01Is.j0]
          rw [if_neg (by decide), hn, if_pos h0]
          by_cases hT : T = 0
          · simp [hT]
          · simp [hT]
        · rw [if_neg h0]
          refine Ev.step (f := fun k => (spec_l01Power.f k p (L + D)).bind fun t => (spec_l01In.f T 0 (wrap64 (t - 1))).bind fun t2 => if t2 = true then (if D = 0 then some true else if p = 0 then none else some (Int.tmod T p != 0)) else some false) (fun k => by simp only [spec_l01Is.j0]; rw [if_neg (by decide), hn, if_neg h0]) ?_
          refine Ev.bind (spec_l01Power_ev p (L + D) (by omega)) ?_
          rw [powW_prime hp _ (by omega)]
          have hpp := ipow_pos (p := p) (by omega) (L + D).toNat
          have hpt := pow_le_top hp (L + D).toNat (by omega)
          rw [wid (n := p ^ (L + D).toNat - 1) (by omega) (by omega)]
          refine Ev.bindv (In_eq _ _ _) ?_
          rw [show decide (0 ≤ T ∧ T ≤ p ^ (L + D).toNat - 1) = decide (0 ≤ T ∧ T < p ^ (L + D).toNat) from decide_eq_decide.2 (by omega)]
          cases decide (0 ≤ T ∧ T < p ^ (L + D).toNat) with
          | false => simp only [Bool.false_eq_true, if_false, Bool.false_and]; exact Ev.now _
          | true =>
            simp only [if_true, Bool.true_and]
            by_cases hd : D = 0
            · simp only [hd, if_true]; simp; exact Ev.now _
            · rw [if_neg hd, if_neg (by omega), show (D == 0) = false from beq_eq_false_iff_ne.2 hd, Bool.false_or]
              exact Ev.now _
      · rw [decide_eq_false hD]; simpa using hno
    · rw [decide_eq_false hL]; simpa using hno

def codeB (p : Int) (l : List S25) : Bool := primeB p && l.all (fun b => ballB p b.f0 b.f1 b.f2)
theorem spec_l01Code_ev (p : Int) (l : List S25) (hl : l.length ≤ 4611686018427387904) : Ev (fun k => spec_l01Code.f k p l) (if codeB p l then 0 else 1) := by
  unfold spec_l01Code.f codeB
  refine Ev.bindv (spec_l01Prime_eq p) ?_
  cases hp : primeB p with
  | false => simp; exact Ev.now _
  | true =>
    simp only [if_true, Bool.true_and]
    rw [← all_range_getD l z25]
    refine all_ev' (fun k i => spec_l01Code.l0 k p l i) l.length (fun i => ballB p (l.getD i z25).f0 (l.getD i z25).f1 (l.getD i z25).f2) 0 1 ?_ ?_ ?_
    · intro i r hi hb hr
      refine Ev.step (f := fun k => (spec_l01Is.f k p (l.getD i z25).f0 (l.getD i z25).f1 (l.getD i z25).f2).bind fun t => if t = true then spec_l01Code.l0 k p l ((i : Int) + 1) else some 1) (fun k => ?_) ?_
      · simp only [spec_l01Code.l0]
        rw [if_pos (by omega), if_pos (by omega), wid (by omega) (by omega)]; rfl
      · refine Ev.bind (spec_l01Is_ev _ _ _ _) ?_
        rw [hb]; simpa using hr
    · intro i hi hb
      refine Ev.step (f := fun k => (spec_l01Is.f k p (l.getD i z25).f0 (l.getD i z25).f1 (l.getD i z25).f2).bind fun t => if t = true then spec_l01Code.l0 k p l ((i : Int) + 1) else some 1) (fun k => ?_) ?_
      · simp only [spec_l01Code.l0]
        rw [if_pos (by omega), if_pos (by omega), wid (by omega) (by omega)]; rfl
      · refine Ev.bind (spec_l01Is_ev _ _ _ _) ?_
        rw [hb]; simp; exact Ev.now _
    · exact Ev.step (f := fun _ => some 0) (fun k => by simp only [spec_l01Code.l0]; rw [if_neg (by omega)]) (Ev.now _)

theorem impl_isPrime_eq (p : Int) : impl_isPrime.f p = some (primeB p) := by
  unfold impl_isPrime.f primeB
  by_cases h2 : p = 2
  · simp [h2]
  · by_cases h3 : p = 3
    · simp [h3]
    · by_cases h5 : p = 5
      · simp [h5]
      · rw [if_neg h2, if_neg h3, if_neg h5, beq_eq_false_iff_ne.2 h2, beq_eq_false_iff_ne.2 h3, beq_eq_false_iff_ne.2 h5]; rfl

theorem impl_IsBall_ev (p L T D : Int) : Ev (fun k => impl_IsBall.f k p L T D) (ballB p L T D) := by
  have hno : Ev (fun k => impl_IsBall.j0 k p true L T D) false := Ev.step (f := fun _ => some false) (fun k => by simp only [impl_IsBall.j0, if_true]) (Ev.now _)
  unfold impl_IsBall.f
  refine Ev.bindv (impl_isPrime_eq p) ?_
  unfold ballB
  cases hp : primeB p with
  | false => simpa using hno
  | true =>
    have hp2 := prime_lo hp
    simp only [if_true, Bool.true_and]
    refine Ev.bindv (impl_isLevel_eq L) ?_
    by_cases hL : -6 ≤ L ∧ L ≤ 6
    · rw [decide_eq_true hL]; simp only [if_true, Bool.true_and]
      by_cases hD0 : D < 0
      · rw [decide_eq_false (show ¬ (0 ≤ D ∧ D ≤ 6) by omega)]; simp only [if_pos hD0, Bool.false_and]; exact hno
      simp only [if_neg hD0]
      by_cases hD : 0 ≤ D ∧ D ≤ 6
      · rw [decide_eq_true hD, decide_eq_false (show ¬ D > 6 by omega)]; simp only [Bool.true_and]
        have hn := wid (n := L + D) (by omega) (by omega)
        by_cases h0 : L + D ≤ 0
        · rw [if_pos h0]
          refine Ev.step (f := fun _ => some (T == 0 && D == 0)) (fun k => ?_) (Ev.now _)
          simp only [impl_IsBall.j0]
          rw [if_neg (by decide), hn, if_pos h0]
          by_cases hT : T = 0
          · simp [hT]
          · simp [hT]
        · rw [if_neg h0]
          by_cases hT0 : T ≥ 0
          · refine Ev.step (f := fun k => (impl_power.f k p (L + D)).bind fun t => if T < t then (if D = 0 then some true else if p = 0 then none else some (Int.tmod T p != 0)) else some false) (fun k => by simp only [impl_IsBall.j0]; rw [if_neg (by decide), hn, if_neg h0, if_pos hT0]) ?_
            refine Ev.bind (impl_power_ev p (L + D) (by omega)) ?_
            rw [powW_prime hp _ (by omega)]
            by_cases hT1 : T < p ^ (L + D).toNat
            · rw [if_pos hT1, decide_eq_true (show 0 ≤ T ∧ T < p ^ (L + D).toNat from ⟨hT0, hT1⟩), Bool.true_and]
              by_cases hd : D = 0
              · simp only [hd, if_true]; simp; exact Ev.now _
              · rw [if_neg hd, if_neg (by omega), show (D == 0) = false from beq_eq_false_iff_ne.2 hd, Bool.false_or]
                exact Ev.now _
            · rw [if_neg hT1, decide_eq_false (show ¬ (0 ≤ T ∧ T < p ^ (L + D).toNat) from fun h => hT1 h.2), Bool.false_and]
              exact Ev.now _
          · rw [decide_eq_false (show ¬ (0 ≤ T ∧ T < p ^ (L + D).toNat) from fun h => hT0 h.1), Bool.false_and]
            refine Ev.step (f := fun _ => some false) (fun k => ?_) (Ev.now _)
            simp only [impl_IsBall.j0]
            rw [if_neg (by decide), hn, if_neg h0, if_neg hT0]
      · rw [decide_eq_false hD, decide_eq_true (show D > 6 by omega)]; simpa using hno
    · rw [decide_eq_false hL]; simpa using hno

theorem all_evp {β : Type} (g : Nat → Nat → Option β) (n : Nat) (p : Nat → Bool) (yes no : β)
    (hstep : ∀ (i : Nat) (r : β), i < n → (∀ j, j < i → p j = true) → p i = true → Ev (fun k => g k (i + 1)) r → Ev (fun k => g k i) r)
    (hno : ∀ (i : Nat), i < n → (∀ j, j < i → p j = true) → p i = false → Ev (fun k => g k i) no)
    (hend : (∀ j, j < n → p j = true) → Ev (fun k => g k n) yes) : Ev (fun k => g k 0) (if (List.range n).all p then yes else no) := by
  have key : ∀ (d i : Nat), i + d = n → (∀ j, j < i → p j = true) → Ev (fun k => g k i) (if (List.range n).all p then yes else no) := by
    intro d
    induction d with
    | zero =>
      intro i hi hj
      obtain rfl : i = n := by omega
      rw [if_pos (List.all_eq_true.2 fun x hx => hj x (List.mem_range.1 hx))]
      exact hend hj
    | succ d ih =>
      intro i hi hj
      cases hp : p i with
      | true => exact hstep i _ (by omega) hj hp (ih (i + 1) (by omega) (fun j h => by rcases Nat.lt_or_ge j i with h2 | h2; exact hj j h2; rw [show j = i by omega]; exact hp))
      | false =>
        rw [if_neg (fun h => by have := List.all_eq_true.1 h i (List.mem_range.2 (by omega)); rw [hp] at this; cases this)]
        exact hno i (by omega) hj hp
  exact key n 0 (by omega) (fun j h => absurd h (by omega))
theorem rdP (l : List S52) (i : Nat) : rd_T52 l (i : Int) = l.getD i z52 := rfl
def pB (p : Int) (x : S52) : Bool := ballB p x.f0.f0 x.f0.f1 x.f0.f2
def pM (p : Int) (x : S52) : Int := markOf p x.f0.f1 x.f0.f2
def wB (x : S52) : Bool := decide (-1000000 ≤ x.f1 ∧ x.f1 ≤ 1000000)
def hB (p : Int) (x y : S52) : Bool := holdsB p x.f0.f0 x.f0.f1 x.f0.f2 y.f0.f0 y.f0.f1 y.f0.f2
def gB (p rL rT rD : Int) (l : List S52) (i : Nat) : Bool :=
  pB p (l.getD i z52) && (holdsB p rL rT rD (l.getD i z52).f0.f0 (l.getD i z52).f0.f1 (l.getD i z52).f0.f2 && (decide (i = 0) || decide (pM p (l.getD (i - 1) z52) < pM p (l.getD i z52))))
def apB (p : Int) (l : List S52) (i : Nat) : Bool := (List.range i).all fun j => !hB p (l.getD i z52) (l.getD j z52) && !hB p (l.getD j z52) (l.getD i z52)
def sumP (p e : Int) (l : List S52) : Nat → Int
  | 0 => 0
  | i + 1 => sumP p e l i + p ^ (e - (l.getD i z52).f0.f0).toNat
def measB (p rL rT rD : Int) (l : List S52) : Bool :=
  ballB p rL rT rD && (decide (1 ≤ l.length ∧ l.length ≤ 64) && (((List.range l.length).all (fun i => gB p rL rT rD l i && apB p l i) && sumP p (12 + rL) l l.length == p ^ 12) && l.all wB))
theorem holds_lv {p L T D L' T' D' : Int} (h : holdsB p L T D L' T' D' = true) : L ≤ L' := by
  unfold holdsB at h
  rw [Bool.and_eq_true, decide_eq_true_eq] at h
  exact h.1
section
variable {p rL rT rD : Int} {l : List S52}
theorem gB_lv {i : Nat} (h : gB p rL rT rD l i = true) : rL ≤ (l.getD i z52).f0.f0 ∧ (l.getD i z52).f0.f0 ≤ 6 ∧ pB p (l.getD i z52) = true := by
  unfold gB at h
  simp only [Bool.and_eq_true] at h
  obtain ⟨h1, h2, _⟩ := h
  have := (ball_parts h1).2.1
  exact ⟨holds_lv h2, this.2, h1⟩
theorem sumP_bd {e : Int} (hp : primeB p = true) (n : Nat) (h : ∀ j, j < n → rL ≤ (l.getD j z52).f0.f0) (he : e - rL ≤ 12) : 0 ≤ sumP p e l n ∧ sumP p e l n ≤ (n : Int) * 13841287201 := by
  induction n with
  | zero => simp [sumP]
  | succ n ih =>
    obtain ⟨i1, i2⟩ := ih (fun j hj => h j (by omega))
    have h1 := pow_13 hp (e - (l.getD n z52).f0.f0).toNat (by have := h n (by omega); omega)
    have h2 := ipow_pos (show 1 ≤ p by have := prime_lo hp; omega) (e - (l.getD n z52).f0.f0).toNat
    simp only [sumP]
    omega
theorem impl_apart_ev {x y : S52} (hx : pB p x = true) (hy : pB p y = true) : Ev (fun k => impl_apart.f k p x.f0.f0 x.f0.f1 x.f0.f2 y.f0.f0 y.f0.f1 y.f0.f2) (!hB p x y && !hB p y x) := by
  unfold impl_apart.f
  refine Ev.bind (impl_holds_ev hx hy) ?_
  show Ev _ (!holdsB p x.f0.f0 x.f0.f1 x.f0.f2 y.f0.f0 y.f0.f1 y.f0.f2 && !hB p y x)
  cases holdsB p x.f0.f0 x.f0.f1 x.f0.f2 y.f0.f0 y.f0.f1 y.f0.f2 with
  | true => simp only [if_true, Bool.not_true, Bool.false_and]; exact Ev.now _
  | false =>
    simp only [Bool.false_eq_true, if_false, Bool.not_false, Bool.true_and]
    exact Ev.bind (impl_holds_ev hy hx) (Ev.now _)
theorem impl_isWeight_ev (w : Int) : Ev (fun k => impl_isWeight.f k [w]) (decide (-1000000 ≤ w ∧ w ≤ 1000000)) := by
  unfold impl_isWeight.f
  refine Ev.bind (impl_within_ev 1000000 [w] (by omega) (by omega) (by simp)) ?_
  simp only [List.all_cons, List.all_nil, Bool.and_true]
  exact Ev.now _
theorem spec_l08Key_ev {L T D : Int} (h : ballB p L T D = true) : Ev (fun k => spec_l08Key.f k p L T D) (markOf p T D) := by
  obtain ⟨hp, hL, hD, _, _⟩ := ball_parts h
  obtain ⟨m0, m1⟩ := mark_lt h
  have m2 := pow_13 hp (L + 6).toNat (by omega)
  unfold spec_l08Key.f
  rw [wid (n := 6 - D) (by omega) (by omega)]
  refine Ev.bind (spec_l01Power_ev p _ (by omega)) ?_
  rw [powW_prime hp _ (by omega), show T * p ^ (6 - D).toNat = markOf p T D from rfl, wid (by omega) (by omega)]
  exact Ev.now _
theorem getD_take {i j : Nat} (hj : j < i) : (l.take i).getD j z52 = l.getD j z52 := by
  rw [List.getD_eq_getElem?_getD, List.getD_eq_getElem?_getD, List.getElem?_take_of_lt hj]
theorem impl_part_l1 (hl : l.length ≤ 64) (i : Nat) (hi : i < l.length) (hr : ballB p rL rT rD = true) (hj : ∀ j, j < i → gB p rL rT rD l j = true) (hg : gB p rL rT rD l i = true) (r : Bool)
    (hn : apB p l i = true → Ev (fun k => impl_isPartition.l0 k p l (sumP p (12 + rL) l (i + 1)) l l.length ((i + 1 : Nat) : Int) rL rT rD) r) (hf : apB p l i = false → r = false) :
    Ev (fun k => impl_isPartition.l1 k p l (sumP p (12 + rL) l i) l l.length i (l.take i) i (0 : Nat) rL rT rD (l.getD i z52).f0.f0 (l.getD i z52).f0.f1 (l.getD i z52).f0.f2 (l.getD i z52).f1) r := by
  have hlen : (l.take i).length = i := by rw [List.length_take]; omega
  obtain ⟨g1, g2, g3⟩ := gB_lv hg
  have hp := (ball_parts hr).1
  have hrl := (ball_parts hr).2.1
  have hall : apB p l i = true ∨ apB p l i = false := by cases apB p l i <;> simp
  have := all_evp (fun k j => impl_isPartition.l1 k p l (sumP p (12 + rL) l i) l l.length i (l.take i) i (j : Int) rL rT rD (l.getD i z52).f0.f0 (l.getD i z52).f0.f1 (l.getD i z52).f0.f2 (l.getD i z52).f1) i (fun j => !hB p (l.getD i z52) (l.getD j z52) && !hB p (l.getD j z52) (l.getD i z52)) r false (fun j r' hji hjj hpj hr' => by
      refine Ev.up ?_
      simp only [impl_isPartition.l1, rdP, hlen, getD_take hji]
      simp only [if_pos (show (j : Int) < (i : Int) by omega), if_pos (show (0 : Int) ≤ (j : Int) by omega)]
      refine Ev.bind (impl_apart_ev g3 (gB_lv (hj j hji)).2.2) ?_
      rw [hpj, wid (n := (j : Int) + 1) (by omega) (by omega)]
      simp only [if_true]
      exact hr') (fun j hji hjj hpj => by
      refine Ev.up ?_
      simp only [impl_isPartition.l1, rdP, hlen, getD_take hji]
      simp only [if_pos (show (j : Int) < (i : Int) by omega), if_pos (show (0 : Int) ≤ (j : Int) by omega)]
      refine Ev.bind (impl_apart_ev g3 (gB_lv (hj j hji)).2.2) ?_
      rw [hpj]
      simp only [Bool.false_eq_true, if_false]
      exact Ev.now _) (fun hjj => by
      refine Ev.up ?_
      simp only [impl_isPartition.l1]
      simp only [if_neg (show ¬ (i : Int) < (i : Int) by omega)]
      rw [wid (n := 12 - (l.getD i z52).f0.f0) (by omega) (by omega), wid (n := 12 - (l.getD i z52).f0.f0 + rL) (by omega) (by omega)]
      refine Ev.bind (impl_power_ev p _ (by omega)) ?_
      have hb := sumP_bd (l := l) hp (i + 1) (e := 12 + rL) (fun j hj2 => (gB_lv (show gB p rL rT rD l j = true from by rcases Nat.lt_or_ge j i with h2 | h2; exact hj j h2; rw [show j = i by omega]; exact hg)).1) (by omega)
      have he : 12 - (l.getD i z52).f0.f0 + rL = 12 + rL - (l.getD i z52).f0.f0 := by omega
      rw [powW_prime hp _ (by omega), he, show sumP p (12 + rL) l i + p ^ (12 + rL - (l.getD i z52).f0.f0).toNat = sumP p (12 + rL) l (i + 1) from rfl, wid (n := sumP p (12 + rL) l (i + 1)) (by omega) (by omega), wid (n := (i : Int) + 1) (by omega) (by omega)]
      exact hn (by unfold apB; exact List.all_eq_true.2 fun x hx => hjj x (List.mem_range.1 hx)))
  rcases hall with h | h
  · rw [show (List.range i).all (fun j => !hB p (l.getD i z52) (l.getD j z52) && !hB p (l.getD j z52) (l.getD i z52)) = true from h, if_pos rfl] at this
    exact this
  · rw [show (List.range i).all (fun j => !hB p (l.getD i z52) (l.getD j z52) && !hB p (l.getD j z52) (l.getD i z52)) = false from h] at this
    rw [hf h]
    simpa using this
theorem impl_isPartition_ev (hr : ballB p rL rT rD = true) (hl0 : l.length ≤ 4611686018427387904) : Ev (fun k => impl_isPartition.f k p rL rT rD l) (decide (1 ≤ l.length ∧ l.length ≤ 64) && ((List.range l.length).all (fun i => gB p rL rT rD l i && apB p l i) && sumP p (12 + rL) l l.length == p ^ 12)) := by
  have hp := (ball_parts hr).1
  have hrl := (ball_parts hr).2.1
  have hno : Ev (fun k => impl_isPartition.j0 k p l true rL rT rD) false := by
    refine Ev.up ?_
    simp only [impl_isPartition.j0, if_true]
    exact Ev.now _
  unfold impl_isPartition.f
  by_cases h1 : (l.length : Int) < 1
  · simp only [if_pos h1]
    rw [decide_eq_false (by omega), Bool.false_and]
    exact hno
  simp only [if_neg h1]
  by_cases h2 : (l.length : Int) > 64
  · rw [decide_eq_true h2, decide_eq_false (by omega), Bool.false_and]
    exact hno
  have hl : l.length ≤ 64 := by omega
  rw [decide_eq_false h2, decide_eq_true (show 1 ≤ l.length ∧ l.length ≤ 64 by omega), Bool.true_and]
  refine Ev.up ?_
  simp only [impl_isPartition.j0, Bool.false_eq_true, if_false]
  have := all_evp (fun k i => impl_isPartition.l0 k p l (sumP p (12 + rL) l i) l l.length (i : Int) rL rT rD) l.length (fun i => gB p rL rT rD l i && apB p l i) (sumP p (12 + rL) l l.length == p ^ 12) false ?_ ?_ ?_
  · rw [show ∀ (a b : Bool), (a && b) = if a = true then b else false from fun a b => by cases a <;> simp]
    exact this
  · intro i r hi hj hpi hr'
    simp only [Bool.and_eq_true] at hpi hj
    have hg := hpi.1
    unfold gB at hg
    simp only [Bool.and_eq_true, Bool.or_eq_true, decide_eq_true_eq] at hg
    obtain ⟨q1, q2, q3⟩ := hg
    have fin : Ev (fun k => impl_isPartition.j2 k p l (sumP p (12 + rL) l i) i l l.length i false rL rT rD (l.getD i z52).f0.f0 (l.getD i z52).f0.f1 (l.getD i z52).f0.f2 (l.getD i z52).f1) r := by
      refine Ev.up ?_
      simp only [impl_isPartition.j2, Bool.false_eq_true, if_false, Option.bind_some, Int.toNat_natCast]
      simp only [if_pos (show (0 : Int) ≤ (i : Int) by omega), if_pos (show (i : Int) ≤ (l.length : Int) by omega)]
      have hlen : (l.take i).length = i := by rw [List.length_take]; omega
      rw [hlen]
      exact impl_part_l1 hl i hi hr (fun j hj2 => (hj j hj2).1) hpi.1 r (fun _ => hr') (fun h => by rw [hpi.2] at h; cases h)
    refine Ev.up ?_
    simp only [impl_isPartition.l0, rdP]
    simp only [if_pos (show (i : Int) < (l.length : Int) by omega), if_pos (show (0 : Int) ≤ (i : Int) by omega)]
    refine Ev.bind (impl_IsBall_ev _ _ _ _) ?_
    rw [show ballB p (l.getD i z52).f0.f0 (l.getD i z52).f0.f1 (l.getD i z52).f0.f2 = true from q1]
    simp only [if_true]
    refine Ev.bind (impl_holds_ev hr q1) ?_
    rw [q2]
    simp only [if_true]
    by_cases h0 : i = 0
    · simp only [if_neg (show ¬ (i : Int) > 0 by omega)]
      exact fin
    · have hq := q3.resolve_left h0
      have hprev := (gB_lv (hj (i - 1) (by omega)).1).2.2
      simp only [if_pos (show (i : Int) > 0 by omega)]
      refine Ev.bind (impl_mark_ev q1) ?_
      rw [wid (n := (i : Int) - 1) (by omega) (by omega), show (i : Int) - 1 = ((i - 1 : Nat) : Int) by omega]
      simp only [rdP, if_pos (show (0 : Int) ≤ ((i - 1 : Nat) : Int) by omega), if_pos (show ((i - 1 : Nat) : Int) < (l.length : Int) by omega)]
      refine Ev.bind (impl_mark_ev hprev) ?_
      rw [decide_eq_false (by unfold pM at hq; omega)]
      exact fin
  · intro i hi hj hpi
    simp only [Bool.and_eq_true] at hj
    have stop : Ev (fun k => impl_isPartition.j2 k p l (sumP p (12 + rL) l i) i l l.length i true rL rT rD (l.getD i z52).f0.f0 (l.getD i z52).f0.f1 (l.getD i z52).f0.f2 (l.getD i z52).f1) false := by
      refine Ev.up ?_
      simp only [impl_isPartition.j2, if_true]
      exact Ev.now _
    have fin (hg : gB p rL rT rD l i = true) : Ev (fun k => impl_isPartition.j2 k p l (sumP p (12 + rL) l i) i l l.length i false rL rT rD (l.getD i z52).f0.f0 (l.getD i z52).f0.f1 (l.getD i z52).f0.f2 (l.getD i z52).f1) false := by
      refine Ev.up ?_
      simp only [impl_isPartition.j2, Bool.false_eq_true, if_false, Option.bind_some, Int.toNat_natCast]
      simp only [if_pos (show (0 : Int) ≤ (i : Int) by omega), if_pos (show (i : Int) ≤ (l.length : Int) by omega)]
      have hlen : (l.take i).length = i := by rw [List.length_take]; omega
      rw [hlen]
      exact impl_part_l1 hl i hi hr (fun j hj2 => (hj j hj2).1) hg false (fun h => by rw [hg, h] at hpi; cases hpi) (fun _ => rfl)
    refine Ev.up ?_
    simp only [impl_isPartition.l0, rdP]
    simp only [if_pos (show (i : Int) < (l.length : Int) by omega), if_pos (show (0 : Int) ≤ (i : Int) by omega)]
    refine Ev.bind (impl_IsBall_ev _ _ _ _) ?_
    cases q1 : ballB p (l.getD i z52).f0.f0 (l.getD i z52).f0.f1 (l.getD i z52).f0.f2 with
    | false => simp only [Bool.false_eq_true, if_false]; exact stop
    | true =>
      simp only [if_true]
      refine Ev.bind (impl_holds_ev hr q1) ?_
      cases q2 : holdsB p rL rT rD (l.getD i z52).f0.f0 (l.getD i z52).f0.f1 (l.getD i z52).f0.f2 with
      | false => simp only [Bool.false_eq_true, if_false]; exact stop
      | true =>
        simp only [if_true]
        by_cases h0 : i = 0
        · simp only [if_neg (show ¬ (i : Int) > 0 by omega)]
          exact fin (by unfold gB pB; rw [q1, q2, decide_eq_true h0]; rfl)
        · have hprev := (gB_lv (hj (i - 1) (by omega)).1).2.2
          simp only [if_pos (show (i : Int) > 0 by omega)]
          refine Ev.bind (impl_mark_ev q1) ?_
          rw [wid (n := (i : Int) - 1) (by omega) (by omega), show (i : Int) - 1 = ((i - 1 : Nat) : Int) by omega]
          simp only [rdP, if_pos (show (0 : Int) ≤ ((i - 1 : Nat) : Int) by omega), if_pos (show ((i - 1 : Nat) : Int) < (l.length : Int) by omega)]
          refine Ev.bind (impl_mark_ev hprev) ?_
          by_cases q3 : pM p (l.getD (i - 1) z52) < pM p (l.getD i z52)
          · rw [decide_eq_false (by unfold pM at q3; omega)]
            exact fin (by unfold gB pB; rw [q1, q2, decide_eq_true q3, Bool.or_true]; rfl)
          · rw [decide_eq_true (by unfold pM at q3; omega)]
            exact stop
  · intro hj
    refine Ev.up ?_
    simp only [impl_isPartition.l0]
    simp only [if_neg (show ¬ (l.length : Int) < (l.length : Int) by omega)]
    refine Ev.bind (impl_power_ev p 12 (by omega)) ?_
    rw [show (12 : Int).toNat = 12 from rfl, powW_prime hp 12 (by omega)]
    exact Ev.now _
theorem impl_IsMeasure_ev (hl : l.length ≤ 4611686018427387904) : Ev (fun k => impl_IsMeasure.f k p rL rT rD l) (measB p rL rT rD l) := by
  have hno : Ev (fun k => impl_IsMeasure.j0 k true rL rT rD l) false := by
    refine Ev.up ?_
    simp only [impl_IsMeasure.j0, if_true]
    exact Ev.now _
  unfold impl_IsMeasure.f measB
  refine Ev.bind (impl_IsBall_ev _ _ _ _) ?_
  cases hr : ballB p rL rT rD with
  | false => simp only [Bool.false_eq_true, if_false, Bool.false_and]; exact hno
  | true =>
    simp only [if_true, Bool.true_and]
    refine Ev.bind (impl_isPartition_ev hr hl) ?_
    generalize decide (1 ≤ l.length ∧ l.length ≤ 64) = D
    generalize ((List.range l.length).all (fun i => gB p rL rT rD l i && apB p l i) && sumP p (12 + rL) l l.length == p ^ 12) = A
    rw [← Bool.and_assoc]
    cases hpt : (D && A) with
    | false => simp only [Bool.not_false, Bool.false_and]; exact hno
    | true =>
      simp only [Bool.not_true, Bool.true_and]
      refine Ev.up ?_
      simp only [impl_IsMeasure.j0, Bool.false_eq_true, if_false]
      have := all_evp (fun k i => impl_IsMeasure.l0 k l l.length (i : Int)) l.length (fun i => wB (l.getD i z52)) true false (fun i r hi _ hw hr' => by
        refine Ev.up ?_
        simp only [impl_IsMeasure.l0, rdP]
        simp only [if_pos (show (i : Int) < (l.length : Int) by omega), if_pos (show (0 : Int) ≤ (i : Int) by omega)]
        refine Ev.bind (impl_isWeight_ev _) ?_
        rw [show decide (-1000000 ≤ (l.getD i z52).f1 ∧ (l.getD i z52).f1 ≤ 1000000) = true from hw, wid (n := (i : Int) + 1) (by omega) (by omega)]
        simp only [if_true]
        exact hr') (fun i hi _ hw => by
        refine Ev.up ?_
        simp only [impl_IsMeasure.l0, rdP]
        simp only [if_pos (show (i : Int) < (l.length : Int) by omega), if_pos (show (0 : Int) ≤ (i : Int) by omega)]
        refine Ev.bind (impl_isWeight_ev _) ?_
        rw [show decide (-1000000 ≤ (l.getD i z52).f1 ∧ (l.getD i z52).f1 ≤ 1000000) = false from hw]
        simp only [Bool.false_eq_true, if_false]
        exact Ev.now _) (fun _ => by
        refine Ev.up ?_
        simp only [impl_IsMeasure.l0]
        simp only [if_neg (show ¬ (l.length : Int) < (l.length : Int) by omega)]
        exact Ev.now _)
      rw [ite_tf] at this
      rw [← all_range_getD l z52 wB]
      exact this
end

def leastS (rL : Int) (l : List S52) : Nat → Int
  | 0 => rL
  | i + 1 => mx (leastS rL l i) (l.getD i z52).f0.f0
def offB (p : Int) (l : List S52) (i : Nat) : Bool := (List.range l.length).all fun k => decide (i = k) || !hB p (l.getD i z52) (l.getD k z52)
theorem mx_max (a b : Int) : mx a b = max a b := by unfold mx; split <;> omega
theorem codeB_one (p rL rT rD : Int) : codeB p [(⟨rL, rT, rD⟩ : S25)] = ballB p rL rT rD := by
  unfold codeB
  cases h : ballB p rL rT rD with
  | false => simp [h]
  | true => simp [h, (ball_parts h).1]
section
variable {p rL rT rD : Int} {l : List S52}
theorem leastS_bd (n : Nat) (h : ∀ j, j < n → rL ≤ (l.getD j z52).f0.f0 ∧ (l.getD j z52).f0.f0 ≤ 6) (h6 : rL ≤ 6) : rL ≤ leastS rL l n ∧ leastS rL l n ≤ 6 ∧ ∀ j, j < n → (l.getD j z52).f0.f0 ≤ leastS rL l n := by
  induction n with
  | zero => exact ⟨Int.le_refl _, h6, fun j hj => absurd hj (by omega)⟩
  | succ n ih =>
    obtain ⟨i1, i2, i3⟩ := ih (fun j hj => h j (by omega))
    have hn := h n (by omega)
    simp only [leastS, mx_max]
    refine ⟨by omega, by omega, fun j hj => ?_⟩
    rcases Nat.lt_or_ge j n with h2 | h2
    · have := i3 j h2; omega
    · rw [show j = n by omega]; omega
theorem sumP_mul {e f : Int} (hf : 0 ≤ f) (n : Nat) (h : ∀ j, j < n → (l.getD j z52).f0.f0 ≤ e) : sumP p (e + f) l n = sumP p e l n * p ^ f.toNat := by
  induction n with
  | zero => simp [sumP]
  | succ n ih =>
    simp only [sumP]
    rw [ih (fun j hj => h j (by omega)), show (e + f - (l.getD n z52).f0.f0).toNat = (e - (l.getD n z52).f0.f0).toNat + f.toNat by have := h n (by omega); omega, Int.pow_add, Int.add_mul]
theorem off_ap : (List.range l.length).all (offB p l) = (List.range l.length).all (apB p l) := by
  rw [Bool.eq_iff_iff]
  simp only [List.all_eq_true, List.mem_range, offB, apB, Bool.or_eq_true, Bool.and_eq_true, decide_eq_true_eq]
  constructor
  · intro h i hi j hj
    exact ⟨(h i hi j (by omega)).resolve_left (by omega), (h j (by omega) i hi).resolve_left (by omega)⟩
  · intro h i hi k hk
    rcases Nat.lt_trichotomy i k with h2 | h2 | h2
    · exact Or.inr (h k hk i h2).2
    · exact Or.inl h2
    · exact Or.inr (h i hi k h2).1
theorem meas_same (hr : ballB p rL rT rD = true) : (if (List.range l.length).all (fun i => gB p rL rT rD l i && wB (l.getD i z52)) = true then ((List.range l.length).all (offB p l) && sumP p (leastS rL l l.length) l l.length == p ^ (leastS rL l l.length - rL).toNat) else false)
    = (((List.range l.length).all (fun i => gB p rL rT rD l i && apB p l i) && sumP p (12 + rL) l l.length == p ^ 12) && l.all wB) := by
  have hp := (ball_parts hr).1
  have hrl := (ball_parts hr).2.1
  rw [off_ap, ← all_range_getD l z52 wB]
  by_cases hg : ∀ i, i < l.length → gB p rL rT rD l i = true
  · obtain ⟨m1, m2, m3⟩ := leastS_bd (rL := rL) (l := l) l.length (fun j hj => ⟨(gB_lv (hg j hj)).1, (gB_lv (hg j hj)).2.1⟩) hrl.2
    have e1 := sumP_mul (p := p) (l := l) (e := leastS rL l l.length) (f := 12 + rL - leastS rL l l.length) (by omega) l.length m3
    rw [show leastS rL l l.length + (12 + rL - leastS rL l l.length) = 12 + rL by omega] at e1
    have e2 : p ^ 12 = p ^ (leastS rL l l.length - rL).toNat * p ^ (12 + rL - leastS rL l l.length).toNat := by
      rw [← Int.pow_add]; congr 1; omega
    have hpos := ipow_pos (show 1 ≤ p by have := prime_lo hp; omega) (12 + rL - leastS rL l l.length).toNat
    have e3 : (sumP p (12 + rL) l l.length == p ^ 12) = (sumP p (leastS rL l l.length) l l.length == p ^ (leastS rL l l.length - rL).toNat) := by
      rw [Bool.eq_iff_iff, beq_iff_eq, beq_iff_eq, e1, e2]
      exact ⟨fun h => Int.eq_of_mul_eq_mul_right (by omega) h, fun h => by rw [h]⟩
    rw [e3]
    have a1 : (List.range l.length).all (fun i => gB p rL rT rD l i && wB (l.getD i z52)) = (List.range l.length).all (fun i => wB (l.getD i z52)) := by
      rw [Bool.eq_iff_iff]; simp only [List.all_eq_true, List.mem_range, Bool.and_eq_true]
      exact ⟨fun h i hi => (h i hi).2, fun h i hi => ⟨hg i hi, h i hi⟩⟩
    have a2 : (List.range l.length).all (fun i => gB p rL rT rD l i && apB p l i) = (List.range l.length).all (apB p l) := by
      rw [Bool.eq_iff_iff]; simp only [List.all_eq_true, List.mem_range, Bool.and_eq_true]
      exact ⟨fun h i hi => (h i hi).2, fun h i hi => ⟨hg i hi, h i hi⟩⟩
    rw [a1, a2]
    cases (List.range l.length).all (fun i => wB (l.getD i z52)) <;> simp
  · have a1 : (List.range l.length).all (fun i => gB p rL rT rD l i && wB (l.getD i z52)) = false := by
      rw [Bool.eq_false_iff]; intro h; simp only [List.all_eq_true, List.mem_range, Bool.and_eq_true] at h
      exact hg fun i hi => (h i hi).1
    have a2 : (List.range l.length).all (fun i => gB p rL rT rD l i && apB p l i) = false := by
      rw [Bool.eq_false_iff]; intro h; simp only [List.all_eq_true, List.mem_range, Bool.and_eq_true] at h
      exact hg fun i hi => (h i hi).1
    rw [a1, a2]
    simp
theorem spec_meas_l1 (hr : ballB p rL rT rD = true) (hl : l.length ≤ 64) (hg : ∀ j, j < l.length → gB p rL rT rD l j = true) :
    Ev (fun k => spec_l08Is.l1 k p (leastS rL l l.length) 0 (0 : Nat) rL rT rD l) ((List.range l.length).all (offB p l) && sumP p (leastS rL l l.length) l l.length == p ^ (leastS rL l l.length - rL).toNat) := by
  have hp := (ball_parts hr).1
  have hrl := (ball_parts hr).2.1
  obtain ⟨m1, m2, m3⟩ := leastS_bd (rL := rL) (l := l) l.length (fun j hj => ⟨(gB_lv (hg j hj)).1, (gB_lv (hg j hj)).2.1⟩) hrl.2
  generalize leastS rL l l.length = M at m1 m2 m3 ⊢
  have inner (i : Nat) (hi : i < l.length) (r : Bool) (hn : offB p l i = true → Ev (fun k => spec_l08Is.l1 k p M (sumP p M l (i + 1)) ((i + 1 : Nat) : Int) rL rT rD l) r) (hf : offB p l i = false → r = false) : Ev (fun k => spec_l08Is.l2 k p M (sumP p M l i) i (0 : Nat) rL rT rD l) r := by
    have := all_evp (fun k j => spec_l08Is.l2 k p M (sumP p M l i) i (j : Int) rL rT rD l) l.length (fun k => decide (i = k) || !hB p (l.getD i z52) (l.getD k z52)) r false (fun j r' hj _ hpj hr' => by
      refine Ev.up ?_
      simp only [spec_l08Is.l2, rdP]
      simp only [if_pos (show (j : Int) < (l.length : Int) by omega)]
      rw [wid (n := (j : Int) + 1) (by omega) (by omega)]
      by_cases e : i = j
      · simp only [if_pos (show (i : Int) = (j : Int) by omega)]; exact hr'
      · simp only [if_neg (show ¬ (i : Int) = (j : Int) by omega), if_pos (show (0 : Int) ≤ (i : Int) by omega), if_pos (show (i : Int) < (l.length : Int) by omega), if_pos (show (0 : Int) ≤ (j : Int) by omega)]
        refine Ev.bind (spec_l01Holds_ev (gB_lv (hg i hi)).2.2 (gB_lv (hg j hj)).2.2) ?_
        have hh : holdsB p (l.getD i z52).f0.f0 (l.getD i z52).f0.f1 (l.getD i z52).f0.f2 (l.getD j z52).f0.f0 (l.getD j z52).f0.f1 (l.getD j z52).f0.f2 = false := by
          rw [decide_eq_false e, Bool.false_or, Bool.not_eq_true'] at hpj; exact hpj
        rw [hh]
        simp only [Bool.false_eq_true, if_false]
        exact hr') (fun j hj _ hpj => by
      refine Ev.up ?_
      simp only [spec_l08Is.l2, rdP]
      simp only [if_pos (show (j : Int) < (l.length : Int) by omega)]
      by_cases e : i = j
      · rw [decide_eq_true e, Bool.true_or] at hpj; cases hpj
      · simp only [if_neg (show ¬ (i : Int) = (j : Int) by omega), if_pos (show (0 : Int) ≤ (i : Int) by omega), if_pos (show (i : Int) < (l.length : Int) by omega), if_pos (show (0 : Int) ≤ (j : Int) by omega)]
        refine Ev.bind (spec_l01Holds_ev (gB_lv (hg i hi)).2.2 (gB_lv (hg j hj)).2.2) ?_
        have hh : holdsB p (l.getD i z52).f0.f0 (l.getD i z52).f0.f1 (l.getD i z52).f0.f2 (l.getD j z52).f0.f0 (l.getD j z52).f0.f1 (l.getD j z52).f0.f2 = true := by
          rw [decide_eq_false e, Bool.false_or, Bool.not_eq_false'] at hpj; exact hpj
        rw [hh]
        simp only [if_true]
        exact Ev.now _) (fun hj => by
      refine Ev.up ?_
      simp only [spec_l08Is.l2, rdP]
      simp only [if_neg (show ¬ (l.length : Int) < (l.length : Int) by omega), if_pos (show (0 : Int) ≤ (i : Int) by omega), if_pos (show (i : Int) < (l.length : Int) by omega)]
      have hi6 := gB_lv (hg i hi)
      have hm := m3 i hi
      rw [wid (n := M - (l.getD i z52).f0.f0) (by omega) (by omega)]
      refine Ev.bind (spec_l01Power_ev p _ (by omega)) ?_
      have hb := sumP_bd (l := l) (rL := rL) (e := M) hp (i + 1) (fun j hj2 => (gB_lv (hg j (by omega))).1) (by omega)
      rw [powW_prime hp _ (by omega), show sumP p M l i + p ^ (M - (l.getD i z52).f0.f0).toNat = sumP p M l (i + 1) from rfl, wid (n := sumP p M l (i + 1)) (by omega) (by omega), wid (n := (i : Int) + 1) (by omega) (by omega)]
      exact hn (by unfold offB; exact List.all_eq_true.2 fun x hx => hj x (List.mem_range.1 hx)))
    cases h : offB p l i with
    | true =>
      rw [show (List.range l.length).all (fun k => decide (i = k) || !hB p (l.getD i z52) (l.getD k z52)) = true from h, if_pos rfl] at this
      exact this
    | false =>
      rw [show (List.range l.length).all (fun k => decide (i = k) || !hB p (l.getD i z52) (l.getD k z52)) = false from h] at this
      rw [hf h]
      simpa using this
  have := all_evp (fun k i => spec_l08Is.l1 k p M (sumP p M l i) (i : Int) rL rT rD l) l.length (offB p l) (sumP p M l l.length == p ^ (M - rL).toNat) false (fun i r hi _ hpi hr' => by
    refine Ev.up ?_
    simp only [spec_l08Is.l1]
    simp only [if_pos (show (i : Int) < (l.length : Int) by omega)]
    exact inner i hi r (fun _ => hr') (fun h => by rw [hpi] at h; cases h)) (fun i hi _ hpi => by
    refine Ev.up ?_
    simp only [spec_l08Is.l1]
    simp only [if_pos (show (i : Int) < (l.length : Int) by omega)]
    exact inner i hi false (fun h => by rw [hpi] at h; cases h) (fun _ => rfl)) (fun _ => by
    refine Ev.up ?_
    simp only [spec_l08Is.l1]
    simp only [if_neg (show ¬ (l.length : Int) < (l.length : Int) by omega)]
    rw [wid (n := M - rL) (by omega) (by omega)]
    refine Ev.bind (spec_l01Power_ev p _ (by omega)) ?_
    rw [powW_prime hp _ (by omega)]
    exact Ev.now _)
  rw [show ∀ (a b : Bool), (a && b) = if a = true then b else false from fun a b => by cases a <;> simp]
  exact this
theorem spec_l08Is_ev (hl0 : l.length ≤ 4611686018427387904) : Ev (fun k => spec_l08Is.f k p rL rT rD l) (measB p rL rT rD l) := by
  have hno : Ev (fun k => spec_l08Is.j0 k p true rL rT rD l) false := by
    refine Ev.up ?_
    simp only [spec_l08Is.j0, if_true]
    exact Ev.now _
  unfold spec_l08Is.f measB
  refine Ev.bind (spec_l01Code_ev p _ (by simp)) ?_
  rw [codeB_one]
  cases hr : ballB p rL rT rD with
  | false => simp only [Bool.false_eq_true, if_false, Bool.false_and, if_neg (show ¬ (1 : Int) = 0 by decide)]; exact hno
  | true =>
    have hp := (ball_parts hr).1
    have hrl := (ball_parts hr).2.1
    simp only [if_true, Bool.true_and]
    by_cases h1 : (l.length : Int) < 1
    · simp only [if_pos h1]
      rw [decide_eq_false (by omega), Bool.false_and]
      exact hno
    simp only [if_neg h1]
    by_cases h2 : (l.length : Int) > 64
    · rw [decide_eq_true h2, decide_eq_false (by omega), Bool.false_and]
      exact hno
    have hl : l.length ≤ 64 := by omega
    rw [decide_eq_false h2, decide_eq_true (show 1 ≤ l.length ∧ l.length ≤ 64 by omega), Bool.true_and]
    refine Ev.up ?_
    simp only [spec_l08Is.j0, Bool.false_eq_true, if_false]
    rw [← meas_same hr]
    have stop (s : Int) (i : Nat) (L T D w : Int) : Ev (fun k => spec_l08Is.j2 k p s i true rL rT rD l L T D w) false := by
      refine Ev.up ?_
      simp only [spec_l08Is.j2, if_true]
      exact Ev.now _
    exact all_evp (fun k i => spec_l08Is.l0 k p (leastS rL l i) (i : Int) rL rT rD l) l.length (fun i => gB p rL rT rD l i && wB (l.getD i z52)) _ false (fun i r hi hj hpi hr' => by
      simp only [Bool.and_eq_true] at hpi hj
      have hw : decide (-1000000 ≤ (l.getD i z52).f1 ∧ (l.getD i z52).f1 ≤ 1000000) = true := hpi.2
      have hg := hpi.1
      unfold gB at hg
      simp only [Bool.and_eq_true, Bool.or_eq_true, decide_eq_true_eq] at hg
      obtain ⟨q1, q2, q3⟩ := hg
      refine Ev.up ?_
      simp only [spec_l08Is.l0, rdP]
      simp only [if_pos (show (i : Int) < (l.length : Int) by omega), if_pos (show (0 : Int) ≤ (i : Int) by omega)]
      refine Ev.bind (spec_l01Is_ev _ _ _ _) ?_
      rw [show ballB p (l.getD i z52).f0.f0 (l.getD i z52).f0.f1 (l.getD i z52).f0.f2 = true from q1]
      simp only [if_true]
      refine Ev.bind (spec_l01Holds_ev hr q1) ?_
      rw [q2]
      simp only [if_true]
      refine Ev.bindv (In_eq _ _ _) ?_
      rw [hw]
      refine Ev.up ?_
      simp only [spec_l08Is.j2, Bool.not_true, Bool.false_eq_true, if_false]
      rw [wid (n := (i : Int) + 1) (by omega) (by omega)]
      by_cases h0 : i = 0
      · simp only [if_neg (show ¬ (i : Int) > 0 by omega)]
        exact hr'
      · have hq := q3.resolve_left h0
        have hprev := (gB_lv (hj (i - 1) (by omega)).1).2.2
        simp only [if_pos (show (i : Int) > 0 by omega)]
        rw [wid (n := (i : Int) - 1) (by omega) (by omega), show (i : Int) - 1 = ((i - 1 : Nat) : Int) by omega]
        simp only [rdP, if_pos (show (0 : Int) ≤ ((i - 1 : Nat) : Int) by omega), if_pos (show ((i - 1 : Nat) : Int) < (l.length : Int) by omega)]
        refine Ev.bind (spec_l08Key_ev hprev) (Ev.bind (spec_l08Key_ev q1) ?_)
        simp only [if_neg (show ¬ markOf p (l.getD (i - 1) z52).f0.f1 (l.getD (i - 1) z52).f0.f2 ≥ markOf p (l.getD i z52).f0.f1 (l.getD i z52).f0.f2 by unfold pM at hq; omega)]
        exact hr') (fun i hi hj hpi => by
      simp only [Bool.and_eq_true] at hj
      refine Ev.up ?_
      simp only [spec_l08Is.l0, rdP]
      simp only [if_pos (show (i : Int) < (l.length : Int) by omega), if_pos (show (0 : Int) ≤ (i : Int) by omega)]
      refine Ev.bind (spec_l01Is_ev _ _ _ _) ?_
      cases q1 : ballB p (l.getD i z52).f0.f0 (l.getD i z52).f0.f1 (l.getD i z52).f0.f2 with
      | false => simp only [Bool.false_eq_true, if_false]; exact stop _ _ _ _ _ _
      | true =>
        simp only [if_true]
        refine Ev.bind (spec_l01Holds_ev hr q1) ?_
        cases q2 : holdsB p rL rT rD (l.getD i z52).f0.f0 (l.getD i z52).f0.f1 (l.getD i z52).f0.f2 with
        | false => simp only [Bool.false_eq_true, if_false]; exact stop _ _ _ _ _ _
        | true =>
          simp only [if_true]
          refine Ev.bindv (In_eq _ _ _) ?_
          cases hw : decide (-1000000 ≤ (l.getD i z52).f1 ∧ (l.getD i z52).f1 ≤ 1000000) with
          | false => simp only [Bool.not_false]; exact stop _ _ _ _ _ _
          | true =>
            have hw2 : wB (l.getD i z52) = true := hw
            refine Ev.up ?_
            simp only [spec_l08Is.j2, Bool.not_true, Bool.false_eq_true, if_false]
            by_cases h0 : i = 0
            · have : gB p rL rT rD l i = true := by unfold gB pB; rw [q1, q2, decide_eq_true h0]; rfl
              rw [this, hw2] at hpi; cases hpi
            · have hprev := (gB_lv (hj (i - 1) (by omega)).1).2.2
              simp only [if_pos (show (i : Int) > 0 by omega)]
              rw [wid (n := (i : Int) - 1) (by omega) (by omega), show (i : Int) - 1 = ((i - 1 : Nat) : Int) by omega]
              simp only [rdP, if_pos (show (0 : Int) ≤ ((i - 1 : Nat) : Int) by omega), if_pos (show ((i - 1 : Nat) : Int) < (l.length : Int) by omega)]
              refine Ev.bind (spec_l08Key_ev hprev) (Ev.bind (spec_l08Key_ev q1) ?_)
              by_cases q3 : pM p (l.getD (i - 1) z52) < pM p (l.getD i z52)
              · have : gB p rL rT rD l i = true := by unfold gB pB; rw [q1, q2, decide_eq_true q3, Bool.or_true]; rfl
                rw [this, hw2] at hpi; cases hpi
              · simp only [if_pos (show markOf p (l.getD (i - 1) z52).f0.f1 (l.getD (i - 1) z52).f0.f2 ≥ markOf p (l.getD i z52).f0.f1 (l.getD i z52).f0.f2 by unfold pM at q3; omega)]
                exact Ev.now _) (fun hj => by
      simp only [Bool.and_eq_true] at hj
      refine Ev.up ?_
      simp only [spec_l08Is.l0]
      simp only [if_neg (show ¬ (l.length : Int) < (l.length : Int) by omega)]
      exact spec_meas_l1 hr hl (fun j h => (hj j h).1))
end

theorem measB_parts {p rL rT rD : Int} {l : List S52} (h : measB p rL rT rD l = true) : ballB p rL rT rD = true ∧ (1 ≤ l.length ∧ l.length ≤ 64) ∧ ∀ j, j < l.length → gB p rL rT rD l j = true := by
  unfold measB at h
  simp only [Bool.and_eq_true, decide_eq_true_eq, List.all_eq_true, List.mem_range] at h
  exact ⟨h.1, h.2.1, fun j hj => (h.2.2.1.1 j hj).1⟩

theorem ipow_dvd (p : Int) {a b : Nat} (h : a ≤ b) : p ^ a ∣ p ^ b := ⟨p ^ (b - a), by rw [← Int.pow_add, Nat.add_sub_cancel' h]⟩
theorem measB_apart {p rL rT rD : Int} {l : List S52} (h : measB p rL rT rD l = true) : ∀ i j, i < j → j < l.length → (hB p (l.getD i z52) (l.getD j z52) = false ∧ hB p (l.getD j z52) (l.getD i z52) = false) := by
  unfold measB at h
  simp only [Bool.and_eq_true, decide_eq_true_eq, List.all_eq_true, List.mem_range] at h
  intro i j hij hj
  have := (h.2.2.1.1 j hj).2
  unfold apB at this
  have := List.all_eq_true.1 this i (List.mem_range.2 hij)
  simp only [Bool.and_eq_true, Bool.not_eq_true'] at this
  exact ⟨this.2, this.1⟩
theorem Ev.all {α β : Type} {g : Nat → α → Option β} {r : α → β} (l : List α) (h : ∀ x ∈ l, Ev (fun k => g k x) (r x)) : ∃ K, ∀ k, K ≤ k → ∀ x ∈ l, g k x = some (r x) := by
  induction l with
  | nil => exact ⟨0, fun _ _ x hx => by cases hx⟩
  | cons a l ih =>
    obtain ⟨K, hK⟩ := ih (fun x hx => h x (List.mem_cons_of_mem _ hx))
    obtain ⟨K2, hK2⟩ := h a List.mem_cons_self
    refine ⟨max K K2, fun k hk x hx => ?_⟩
    rcases List.mem_cons.1 hx with rfl | hx
    · exact hK2 k (by omega)
    · exact hK k (by omega) x hx
theorem cop2 {p : Int} (hp : primeB p = true) {g : Int} (h : ¬ p ∣ g) : Int.gcd g p = 1 := by
  have h1 : (Int.gcd g p : Int) ∣ g := Int.gcd_dvd_left g p
  have h2 : (Int.gcd g p : Int) ∣ p := Int.gcd_dvd_right g p
  generalize Int.gcd g p = n at h1 h2
  rcases prime_cases hp with e | e | e | e <;> subst e
  · have h3 : n ∣ 2 := Int.natCast_dvd_natCast.1 h2
    have : ∀ n, n < 3 → n ∣ 2 → n = 1 ∨ n = 2 := by decide
    rcases this n (by have := Nat.le_of_dvd (by omega) h3; omega) h3 with h4 | h4
    · exact h4
    · subst h4; exact absurd h1 h
  · have h3 : n ∣ 3 := Int.natCast_dvd_natCast.1 h2
    have : ∀ n, n < 4 → n ∣ 3 → n = 1 ∨ n = 3 := by decide
    rcases this n (by have := Nat.le_of_dvd (by omega) h3; omega) h3 with h4 | h4
    · exact h4
    · subst h4; exact absurd h1 h
  · have h3 : n ∣ 5 := Int.natCast_dvd_natCast.1 h2
    have : ∀ n, n < 6 → n ∣ 5 → n = 1 ∨ n = 5 := by decide
    rcases this n (by have := Nat.le_of_dvd (by omega) h3; omega) h3 with h4 | h4
    · exact h4
    · subst h4; exact absurd h1 h
  · have h3 : n ∣ 7 := Int.natCast_dvd_natCast.1 h2
    have : ∀ n, n < 8 → n ∣ 7 → n = 1 ∨ n = 7 := by decide
    rcases this n (by have := Nat.le_of_dvd (by omega) h3; omega) h3 with h4 | h4
    · exact h4
    · subst h4; exact absurd h1 h

theorem Ev.det {α : Type} {g : Nat → Option α} {r s : α} (h : Ev g r) (h' : Ev g s) : r = s := by
  obtain ⟨K, hK⟩ := h
  obtain ⟨K', hK'⟩ := h'
  have h1 := hK (K + K') (by omega)
  have h2 := hK' (K + K') (by omega)
  rw [h1] at h2
  injection h2
theorem val_p6 {p : Int} (hp : 2 ≤ p) : val p (p ^ 6) = 6 := val_eq (u := 1) hp (by rw [Int.mul_one]) (fun h => by
  have := Int.le_of_dvd (by decide) h
  omega)
theorem uOf_p6 {p : Int} (hp : 2 ≤ p) : uOf p (p ^ 6) = 1 := by
  unfold uOf
  rw [val_p6 hp]
  exact Int.ediv_self (Int.pow_ne_zero (by omega))
theorem atF_mark {p L n w : Int} (hp : 2 ≤ p) (hw : (-6 ≤ L ∧ L ≤ 6) → isInv (uOf p (p ^ 6)) (p ^ (L + 6).toNat) w) (h : (atF p L n (p ^ 6) w).2.2.2 = true) : (atF p L n (p ^ 6) w).1 = L ∧ markOf p (atF p L n (p ^ 6) w).2.1 (atF p L n (p ^ 6) w).2.2.1 = n % p ^ (L + 6).toNat := by
  revert h
  unfold atF
  by_cases hL : -6 ≤ L ∧ L ≤ 6
  · rw [if_neg (by simpa using hL), val_p6 hp]
    by_cases h1 : n = 0 ∨ L ≤ (val p n : Int) - ((6 : Nat) : Int)
    · rw [if_pos h1]; intro _
      refine ⟨rfl, ?_⟩
      unfold markOf
      rw [Int.zero_mul]
      by_cases h0 : n = 0
      · rw [h0, Int.zero_emod]
      · refine (Int.emod_eq_zero_of_dvd ?_).symm
        exact (val_dvd hp h0 _).2 (by omega)
    · rw [if_neg h1, if_neg (show ¬ ((val p n : Int) - ((6 : Nat) : Int) < -6) by omega)]
      intro _
      refine ⟨rfl, ?_⟩
      have h0 : n ≠ 0 := fun e => h1 (.inl e)
      have hb := (ofM_back (p := p) (L := L) (X := uOf p n * w * p ^ ((val p n : Int) - ((6 : Nat) : Int) + 6).toNat) hp).1
      unfold markOf
      refine hb.trans ?_
      obtain ⟨_, _, k, hk⟩ := hw hL
      rw [uOf_p6 hp, Int.mul_one] at hk
      have hu := (uOf_spec hp h0).1
      rw [show ((val p n : Int) - ((6 : Nat) : Int) + 6).toNat = val p n by omega]
      have e : uOf p n * w * p ^ val p n = n + p ^ (L + 6).toNat * (-(k * n)) := by
        have : uOf p n * w * p ^ val p n = (p ^ val p n * uOf p n) * w := by grind
        rw [this, ← hu, show w = 1 - k * p ^ (L + 6).toNat by omega]
        grind
      rw [e, Int.add_mul_emod_self_left]
  · rw [if_pos hL]; intro h; simp at h
theorem affB {a b : Int} (ha : a ≠ 0) (h1 : -1000 ≤ a ∧ a ≤ 1000) (h2 : -1000 ≤ b ∧ b ≤ 1000) : matB a b 0 1 = true := by
  unfold matB entB
  simp
  omega
theorem impl_move_affine {p L T D a b : Int} (h : ballB p L T D = true) (ha : a ≠ 0) (h1 : -1000 ≤ a ∧ a ≤ 1000) (h2 : -1000 ≤ b ∧ b ≤ 1000) :
    ∃ w, ((-6 ≤ L + (val p a : Int) ∧ L + (val p a : Int) ≤ 6) → isInv (uOf p (p ^ 6)) (p ^ (L + (val p a : Int) + 6).toNat) w) ∧ Ev (fun k => impl_moveBall.f k p a b 0 1 L T D) (atF p (L + (val p a : Int)) (a * markOf p T D + b * p ^ 6) (p ^ 6) w) := by
  obtain ⟨hp, hL, hD, _, _⟩ := ball_parts h
  have hp2 := prime_lo hp
  have hX := mark_lt h
  have hX2 := pow_13 hp (L + 6).toNat (by omega)
  have hsz0 := ipow_pos (p := p) (by omega) (L + 6).toNat
  have p6 := pow_6 hp 6 (by omega)
  have p60 := ipow_pos (p := p) (by omega) 6
  have va := val_le_of_lt hp2 ha 10 (by omega)
  have aX := mulS' (M := 1000) (N := 13841287201) h1 (y := markOf p T D) (by omega) (by omega) (by omega)
  have b6 := mulS' (M := 1000) (N := 117649) h2 (y := p ^ 6) (by omega) (by omega) (by omega)
  have aS := mulS' (M := 1000) (N := 13841287201) h1 (y := p ^ (L + 6).toNat) (by omega) (by omega) (by omega)
  have h6 : p ^ 6 ≠ 0 := by omega
  obtain ⟨w, hw, ew⟩ := impl_ballAt_ev (p := p) (n := a * markOf p T D + b * p ^ 6) (d := p ^ 6) (L := L + (val p a : Int)) hp h6 (by omega) (by omega) (by omega) (by omega)
  refine ⟨w, hw, ?_⟩
  unfold impl_moveBall.f
  rw [wid (n := L + 6) (by omega) (by omega)]
  refine Ev.bind (impl_mark_ev h) (Ev.bind (impl_power_ev p 6 (by omega)) (Ev.bind (impl_power_ev p (L + 6) (by omega)) ?_))
  rw [show (6 : Int).toNat = 6 from rfl, powW_prime hp 6 (by omega), powW_prime hp _ (by omega)]
  simp only [Int.zero_mul, Int.one_mul]
  rw [wid (n := a * markOf p T D) (by omega) (by omega), wid (n := b * p ^ 6) (by omega) (by omega), wid (n := (0 : Int)) (by omega) (by omega), wid (n := p ^ 6) (by omega) (by omega), wid (n := a * markOf p T D + b * p ^ 6) (by omega) (by omega), wid (n := 0 + p ^ 6) (by omega) (by omega), wid (n := a * p ^ (L + 6).toNat) (by omega) (by omega)]
  rw [Int.zero_add]
  refine Ev.bind (impl_valuation_ev hp2 (by omega) (by omega)) (Ev.bind (impl_valuation_ev hp2 (by omega) (by omega)) ?_)
  have v1 : valW p (p ^ 6) = 6 := by unfold valW; rw [if_neg h6, val_p6 hp2]; rfl
  have v0 : valW p 0 = 1000 := rfl
  have vd : valW p (a * 1 - b * 0) = (val p a : Int) := by rw [Int.mul_one, Int.mul_zero, Int.sub_zero]; unfold valW; rw [if_neg ha]
  rw [v1, v0]
  simp only [if_neg (show ¬ (6 : Int) > 1000 by decide)]
  refine Ev.up ?_
  simp only [impl_moveBall.j0]
  refine Ev.bindv (impl_determinant_eq (m := 1000) (by omega) (by omega) h1 h2 (by omega) (by omega)) ?_
  refine Ev.bind (impl_valuation_ev hp2 (by omega) (by omega)) (Ev.bind (impl_valuation_ev hp2 (by omega) (by omega)) ?_)
  rw [vd, v1, wid (n := (val p a : Int) + L) (by omega) (by omega), wid (n := (val p a : Int) + L + 12) (by omega) (by omega), wid (n := 2 * (6 : Int)) (by omega) (by omega), wid (n := (val p a : Int) + L + 12 - 2 * 6) (by omega) (by omega), show (val p a : Int) + L + 12 - 2 * 6 = L + (val p a : Int) by omega]
  exact Ev.bind ew (Ev.now _)
theorem affine_both {p L T D a b : Int} (h : ballB p L T D = true) (ha : a ≠ 0) (h1 : -1000 ≤ a ∧ a ≤ 1000) (h2 : -1000 ≤ b ∧ b ≤ 1000) :
    ∃ r : Int × Int × Int × Bool, Ev (fun k => impl_moveBall.f k p a b 0 1 L T D) r ∧ Ev (fun k => spec_l04Move.f k p a b 0 1 L T D) r ∧ (r.2.2.2 = true → ballB p r.1 r.2.1 r.2.2.1 = true ∧ r.1 = L + (val p a : Int) ∧ markOf p r.2.1 r.2.2.1 = (a * markOf p T D + b * p ^ 6) % p ^ (L + (val p a : Int) + 6).toNat) := by
  obtain ⟨r, r1, r2, r3⟩ := moveBall_both h (affB ha h1 h2)
  obtain ⟨w, hw, ew⟩ := impl_move_affine h ha h1 h2
  obtain rfl := Ev.det r1 ew
  refine ⟨_, r1, r2, fun hok => ⟨r3 hok, ?_⟩⟩
  exact atF_mark (prime_lo (ball_parts h).1) hw hok
theorem affine_apart {p L T D L' T' D' a b : Int} (h : ballB p L T D = true) (h' : ballB p L' T' D' = true) (ha : a ≠ 0) (hL : L ≤ L')
    (e : (a * markOf p T D + b * p ^ 6) % p ^ (L + (val p a : Int) + 6).toNat = (a * markOf p T' D' + b * p ^ 6) % p ^ (L' + (val p a : Int) + 6).toNat) : holdsB p L T D L' T' D' = true := by
  obtain ⟨hp, hLb, _⟩ := ball_parts h
  have hp2 := prime_lo hp
  unfold holdsB
  rw [decide_eq_true hL, Bool.true_and, beq_iff_eq]
  refine Int.emod_eq_zero_of_dvd ?_
  have d1 : p ^ (L + (val p a : Int) + 6).toNat ∣ (a * markOf p T D + b * p ^ 6) - (a * markOf p T D + b * p ^ 6) % p ^ (L + (val p a : Int) + 6).toNat := Int.dvd_self_sub_emod
  have d2 : p ^ (L + (val p a : Int) + 6).toNat ∣ (a * markOf p T' D' + b * p ^ 6) - (a * markOf p T' D' + b * p ^ 6) % p ^ (L' + (val p a : Int) + 6).toNat := Int.dvd_trans (ipow_dvd p (by omega)) Int.dvd_self_sub_emod
  rw [← e] at d2
  have d3 := Int.dvd_sub d2 d1
  have e3 : (a * markOf p T' D' + b * p ^ 6) - (a * markOf p T D + b * p ^ 6) % p ^ (L + (val p a : Int) + 6).toNat - ((a * markOf p T D + b * p ^ 6) - (a * markOf p T D + b * p ^ 6) % p ^ (L + (val p a : Int) + 6).toNat) = a * (markOf p T' D' - markOf p T D) := by grind
  rw [e3] at d3
  by_cases h0 : markOf p T' D' - markOf p T D = 0
  · rw [h0]; exact Int.dvd_zero _
  rw [val_dvd hp2 (Int.mul_ne_zero ha h0)] at d3
  rw [val_dvd hp2 h0]
  have hm : val p (a * (markOf p T' D' - markOf p T D)) = val p a + val p (markOf p T' D' - markOf p T D) := by
    have hu := (uOf_spec hp2 ha).1
    have hu2 := uOf_spec hp2 h0
    obtain ⟨u, eu, nu⟩ := val_spec hp2 ha
    obtain ⟨v, ev, nv⟩ := val_spec hp2 h0
    refine val_eq (u := u * v) hp2 ?_ (fun hd => ?_)
    · rw [Int.pow_add]
      conv => lhs; rw [eu, ev]
      grind
    · exact nv (Int.natAbs_dvd_natAbs.1 (Nat.Coprime.dvd_of_dvd_mul_left (show Nat.Coprime u.natAbs p.natAbs from cop2 hp nu).symm (by rw [← Int.natAbs_mul]; exact Int.natAbs_dvd_natAbs.2 hd)))
  omega

def posI (p : Int) (out : List S52) (x : S52) : Nat → Nat
  | 0 => 0
  | n + 1 => if pM p (out.getD n z52) > pM p x then posI p out x n else n + 1
def insI (p : Int) (out : List S52) (x : S52) : List S52 := out.take (posI p out x out.length) ++ x :: out.drop (posI p out x out.length)
def isortN (p : Int) (l : List S52) : Nat → List S52
  | 0 => []
  | i + 1 => insI p (isortN p l i) (l.getD i z52)
theorem posI_le (p : Int) (out : List S52) (x : S52) (n : Nat) : posI p out x n ≤ n := by
  induction n with
  | zero => simp [posI]
  | succ n ih =>
    unfold posI
    split <;> omega
theorem insI_len (p : Int) (out : List S52) (x : S52) : (insI p out x).length = out.length + 1 := by
  have := posI_le p out x out.length
  unfold insI
  rw [List.length_append, List.length_take, List.length_cons, List.length_drop]
  omega
theorem isortN_len (p : Int) (l : List S52) (i : Nat) : (isortN p l i).length = i := by
  induction i with
  | zero => rfl
  | succ i ih => unfold isortN; rw [insI_len, ih]
theorem insI_perm (p : Int) (out : List S52) (x : S52) : (insI p out x).Perm (x :: out) := by
  unfold insI
  refine (List.perm_middle).trans ?_
  rw [List.take_append_drop]
theorem isortN_perm (p : Int) (l : List S52) (i : Nat) (hi : i ≤ l.length) : (isortN p l i).Perm (l.take i) := by
  induction i with
  | zero => simp [isortN]
  | succ i ih =>
    unfold isortN
    refine (insI_perm p _ _).trans ((List.Perm.cons _ (ih (by omega))).trans ?_)
    have e : l.take (i + 1) = l.take i ++ [l.getD i z52] := by
      rw [List.take_add_one, List.getD_eq_getElem?_getD, List.getElem?_eq_getElem (by omega)]; rfl
    rw [e]
    exact (List.perm_append_singleton _ _).symm
theorem getD_mem {l : List S52} {i : Nat} (h : i < l.length) : l.getD i z52 ∈ l := by
  rw [List.getD_eq_getElem?_getD, List.getElem?_eq_getElem h]
  exact List.getElem_mem h
theorem isortN_mem {p : Int} {l : List S52} {i : Nat} (hi : i ≤ l.length) {x : S52} (h : x ∈ isortN p l i) : x ∈ l := List.mem_of_mem_take ((isortN_perm p l i hi).mem_iff.1 h)
theorem spec_l08Sorted_ev {p : Int} {l : List S52} (hl : l.length ≤ 1048576) (hb : ∀ x ∈ l, pB p x = true) : Ev (fun k => spec_l08Sorted.f k p l) (isortN p l l.length) := by
  have inner : ∀ (i : Nat) (out : List S52) (r : List S52), i < l.length → out.length = i → (∀ x ∈ out, pB p x = true) → ∀ n, n ≤ out.length → Ev (fun k => spec_l08Sorted.l0 k p l (out.take (posI p out (l.getD i z52) n) ++ l.getD i z52 :: out.drop (posI p out (l.getD i z52) n)) ((i + 1 : Nat) : Int)) r → Ev (fun k => spec_l08Sorted.l1 k p l out i (n : Int)) r := by
    intro i out r hi ho hbo n
    induction n with
    | zero =>
      intro _ h
      refine Ev.up ?_
      simp only [spec_l08Sorted.l1]
      simp only [if_neg (show ¬ ((0 : Nat) : Int) > 0 by omega), if_pos (show (0 : Int) ≤ (i : Int) by omega), if_pos (show (i : Int) < (l.length : Int) by omega), Option.bind_some, if_pos (show (0 : Int) ≤ ((0 : Nat) : Int) by omega), if_pos (show ((0 : Nat) : Int) ≤ (out.length : Int) by omega), Int.toNat_natCast, List.length_append, List.length_take, List.length_drop, List.length_cons, List.length_nil, List.nil_append]
      simp only [if_pos (show 0 + 1 + (out.length - 0) < 4398046511104 by omega), if_pos (show 0 + min 0 out.length < 4398046511104 by omega), if_pos (show 0 + min 0 out.length + (0 + 1 + (out.length - 0)) < 4398046511104 by omega)]
      rw [wid (n := (i : Int) + 1) (by omega) (by omega)]
      exact h
    | succ n ih =>
      intro hn h
      have hm : out.getD n z52 ∈ out := getD_mem (by omega)
      refine Ev.up ?_
      simp only [spec_l08Sorted.l1]
      simp only [if_pos (show ((n + 1 : Nat) : Int) > 0 by omega)]
      rw [wid (n := ((n + 1 : Nat) : Int) - 1) (by omega) (by omega), show ((n + 1 : Nat) : Int) - 1 = (n : Int) by omega]
      simp only [if_pos (show (0 : Int) ≤ (n : Int) by omega), if_pos (show (n : Int) < (out.length : Int) by omega), if_pos (show (0 : Int) ≤ (i : Int) by omega), if_pos (show (i : Int) < (l.length : Int) by omega), rdP]
      refine Ev.bind (spec_l08Key_ev (hbo _ hm)) (Ev.bind (spec_l08Key_ev (hb _ (getD_mem hi))) ?_)
      by_cases hgt : pM p (out.getD n z52) > pM p (l.getD i z52)
      · simp only [if_pos (show markOf p (out.getD n z52).f0.f1 (out.getD n z52).f0.f2 > markOf p (l.getD i z52).f0.f1 (l.getD i z52).f0.f2 from hgt)]
        unfold posI at h
        rw [if_pos hgt] at h
        exact ih (by omega) h
      · unfold posI at h
        rw [if_neg hgt] at h
        simp only [if_neg (show ¬ markOf p (out.getD n z52).f0.f1 (out.getD n z52).f0.f2 > markOf p (l.getD i z52).f0.f1 (l.getD i z52).f0.f2 from hgt), Option.bind_some, if_pos (show (0 : Int) ≤ ((n + 1 : Nat) : Int) by omega), if_pos (show ((n + 1 : Nat) : Int) ≤ (out.length : Int) by omega), Int.toNat_natCast, List.length_append, List.length_take, List.length_drop, List.length_cons, List.length_nil, List.nil_append]
        simp only [if_pos (show 0 + 1 + (out.length - (n + 1)) < 4398046511104 by omega), if_pos (show 0 + min (n + 1) out.length < 4398046511104 by omega), if_pos (show 0 + min (n + 1) out.length + (0 + 1 + (out.length - (n + 1))) < 4398046511104 by omega)]
        rw [wid (n := (i : Int) + 1) (by omega) (by omega)]
        exact h
  unfold spec_l08Sorted.f
  have key : ∀ (d i : Nat), i + d = l.length → Ev (fun k => spec_l08Sorted.l0 k p l (isortN p l i) i) (isortN p l l.length) := by
    intro d
    induction d with
    | zero =>
      intro i hi
      obtain rfl : i = l.length := by omega
      refine Ev.up ?_
      simp only [spec_l08Sorted.l0, if_neg (show ¬ (l.length : Int) < (l.length : Int) by omega)]
      exact Ev.now _
    | succ d ih =>
      intro i hi
      refine Ev.up ?_
      simp only [spec_l08Sorted.l0, if_pos (show (i : Int) < (l.length : Int) by omega)]
      have hlen := isortN_len p l i
      refine inner i (isortN p l i) _ (by omega) hlen (fun x hx => hb x (isortN_mem (by omega) hx)) _ (Nat.le_refl _) ?_
      exact ih (i + 1) (by omega)
  exact key l.length 0 (by omega)
def toldW (p rL rT rD : Int) (q : List S52) : Int × Int × Int × List S52 × Int :=
  if q.length ≤ 64 ∧ q.all wB = true then (rL, rT, rD, isortN p q q.length, 0) else (0, 0, 0, [], 3)
theorem all_range {l : List S52} (f : S52 → Bool) : (List.range l.length).all (fun i => f (l.getD i z52)) = l.all f := by
  rw [Bool.eq_iff_iff, List.all_eq_true, List.all_eq_true]
  constructor
  · intro h x hx
    obtain ⟨i, hi, rfl⟩ := List.mem_iff_getElem.1 hx
    have := h i (List.mem_range.2 hi)
    rwa [List.getD_eq_getElem?_getD, List.getElem?_eq_getElem hi] at this
  · intro h i hi
    exact h _ (getD_mem (List.mem_range.1 hi))
theorem spec_l08Told_ev {p rL rT rD : Int} {q : List S52} (hl : q.length ≤ 1048576) (hb : ∀ x ∈ q, pB p x = true) : Ev (fun k => spec_l08Told.f k p rL rT rD q) (toldW p rL rT rD q) := by
  unfold spec_l08Told.f toldW
  by_cases h64 : (q.length : Int) > 64
  · simp only [if_pos h64]
    rw [if_neg (by omega)]
    exact Ev.now _
  · simp only [if_neg h64]
    have := all_evp (fun k i => spec_l08Told.l0 k p q (i : Int) rL rT rD) q.length (fun i => wB (q.getD i z52)) (rL, rT, rD, isortN p q q.length, (0 : Int)) (0, 0, 0, [], 3) (fun i r hi _ hpi hr => by
        refine Ev.up ?_
        simp only [spec_l08Told.l0, rdP, if_pos (show (i : Int) < (q.length : Int) by omega), if_pos (show (0 : Int) ≤ (i : Int) by omega)]
        refine Ev.bindv (In_eq _ _ _) ?_
        rw [show decide (-1000000 ≤ (q.getD i z52).f1 ∧ (q.getD i z52).f1 ≤ 1000000) = true from hpi, wid (n := (i : Int) + 1) (by omega) (by omega)]
        simp only [if_true]
        exact hr) (fun i hi _ hpi => by
        refine Ev.up ?_
        simp only [spec_l08Told.l0, rdP, if_pos (show (i : Int) < (q.length : Int) by omega), if_pos (show (0 : Int) ≤ (i : Int) by omega)]
        refine Ev.bindv (In_eq _ _ _) ?_
        rw [show decide (-1000000 ≤ (q.getD i z52).f1 ∧ (q.getD i z52).f1 ≤ 1000000) = false from hpi]
        simp only [Bool.false_eq_true, if_false]
        exact Ev.now _) (fun _ => by
        refine Ev.up ?_
        simp only [spec_l08Told.l0, if_neg (show ¬ (q.length : Int) < (q.length : Int) by omega)]
        exact Ev.bind (spec_l08Sorted_ev hl hb) (Ev.now _))
    rw [all_range] at this
    by_cases ha : q.all wB = true
    · rw [if_pos ha] at this; rw [if_pos ⟨by omega, ha⟩]; exact this
    · rw [if_neg ha] at this; rw [if_neg (fun h => ha h.2)]; exact this

def sortW (p : Int) (l : List S52) : List S52 := l.mergeSort fun x y => decide (pM p x ≤ pM p y)
theorem sortW_perm (p : Int) (l : List S52) : (sortW p l).Perm l := List.mergeSort_perm l _
theorem sortW_len (p : Int) (l : List S52) : (sortW p l).length = l.length := (sortW_perm p l).length_eq
theorem nodup_inj {f : S52 → Int} {l : List S52} (h : (l.map f).Nodup) : ∀ x ∈ l, ∀ y ∈ l, f x = f y → x = y := by
  induction l with
  | nil => intro x hx; cases hx
  | cons a l ih =>
    rw [List.map_cons, List.nodup_cons] at h
    intro x hx y hy e
    rcases List.mem_cons.1 hx with hx1 | hx1 <;> rcases List.mem_cons.1 hy with hy1 | hy1
    · rw [hx1, hy1]
    · exact absurd (List.mem_map.2 ⟨y, hy1, by rw [← e, hx1]⟩) h.1
    · exact absurd (List.mem_map.2 ⟨x, hx1, by rw [e, hy1]⟩) h.1
    · exact ih h.2 x hx1 y hy1 e
theorem posI_split {p : Int} {out : List S52} {x : S52} (hs : out.Pairwise fun a b => pM p a ≤ pM p b) (n : Nat) (hn : n ≤ out.length) (hr : ∀ y ∈ out.drop n, pM p x ≤ pM p y) : (∀ y ∈ out.take (posI p out x n), pM p y ≤ pM p x) ∧ ∀ y ∈ out.drop (posI p out x n), pM p x ≤ pM p y := by
  induction n with
  | zero => exact ⟨fun y hy => by simp [posI] at hy, hr⟩
  | succ n ih =>
    have hd : out.drop n = out.getD n z52 :: out.drop (n + 1) := by
      rw [List.drop_eq_getElem_cons (by omega), List.getD_eq_getElem?_getD, List.getElem?_eq_getElem (by omega)]; rfl
    unfold posI
    by_cases hgt : pM p (out.getD n z52) > pM p x
    · rw [if_pos hgt]
      refine ih (by omega) (fun y hy => ?_)
      rw [hd] at hy
      rcases List.mem_cons.1 hy with rfl | hy
      · omega
      · exact hr y hy
    · rw [if_neg hgt]
      refine ⟨fun y hy => ?_, hr⟩
      obtain ⟨j, hj, rfl⟩ := List.mem_iff_getElem.1 hy
      rw [List.length_take] at hj
      rw [List.getElem_take]
      have e : out[n] = out.getD n z52 := by rw [List.getD_eq_getElem?_getD, List.getElem?_eq_getElem (by omega)]; rfl
      rcases Nat.lt_or_ge j n with hjn | hjn
      · have := List.pairwise_iff_getElem.1 hs j n (by omega) (by omega) hjn
        rw [e] at this
        omega
      · obtain rfl : j = n := by omega
        rw [e]; omega
theorem isortN_sorted (p : Int) (l : List S52) (i : Nat) : (isortN p l i).Pairwise fun a b => pM p a ≤ pM p b := by
  induction i with
  | zero => simp [isortN]
  | succ i ih =>
    unfold isortN insI
    generalize isortN p l i = out at ih
    generalize l.getD i z52 = x
    obtain ⟨h1, h2⟩ := posI_split (x := x) ih out.length (Nat.le_refl _) (fun y hy => by rw [List.drop_of_length_le (Nat.le_refl _)] at hy; cases hy)
    have hsp : (out.take (posI p out x out.length) ++ out.drop (posI p out x out.length)).Pairwise fun a b => pM p a ≤ pM p b := by rw [List.take_append_drop]; exact ih
    rw [List.pairwise_append] at hsp
    rw [List.pairwise_append]
    refine ⟨hsp.1, List.pairwise_cons.2 ⟨h2, hsp.2.1⟩, fun a ha b hb => ?_⟩
    rcases List.mem_cons.1 hb with rfl | hb
    · exact h1 a ha
    · exact hsp.2.2 a ha b hb
theorem isortN_sortW {p : Int} {l : List S52} (hnd : (l.map (pM p)).Nodup) : isortN p l l.length = sortW p l := by
  refine List.Perm.eq_of_pairwise (le := fun a b => pM p a ≤ pM p b) ?_ (isortN_sorted p l _) ?_ ?_
  · intro a b ha hb h1 h2
    exact nodup_inj hnd a (isortN_mem (Nat.le_refl _) ha) b ((sortW_perm p l).mem_iff.1 hb) (by omega)
  · have := List.pairwise_mergeSort (le := fun x y : S52 => decide (pM p x ≤ pM p y)) (fun a b c h1 h2 => by simp only [decide_eq_true_eq] at *; omega) (fun a b => by simp only [Bool.or_eq_true, decide_eq_true_eq]; omega) l
    exact this.imp (fun h => of_decide_eq_true h)
  · have h := isortN_perm p l l.length (Nat.le_refl _)
    rw [List.take_of_length_le (Nat.le_refl _)] at h
    exact h.trans (sortW_perm p l).symm
theorem impl_sorted_ev {p rL rT rD : Int} {l : List S52} (hl0 : 0 < l.length) (hl : l.length ≤ 1048576) (hb : ∀ x ∈ l, pB p x = true) (hnd : (l.map (pM p)).Nodup) : Ev (fun k => impl_sorted.f k p rL rT rD l) (rL, rT, rD, sortW p l) := by
  obtain ⟨K, hK⟩ := Ev.all (g := fun k (x : S52) => impl_mark.f k p x.f0.f0 x.f0.f1 x.f0.f2) (r := fun x => pM p x) l (fun x hx => impl_mark_ev (hb x hx))
  refine ⟨K, fun k hk => ?_⟩
  have h := hK k hk
  have hkey : ∀ x ∈ l, impl_sorted.key k p x = pM p x := fun x hx => by unfold impl_sorted.key; rw [h x hx]; rfl
  unfold impl_sorted.f
  show (if _ then some _ else none) = some _
  rw [if_pos ⟨⟨hl0, by omega⟩, List.all_eq_true.2 fun x hx => by rw [h x hx]; rfl, by rw [List.map_congr_left hkey]; exact hnd⟩]
  have hm := List.map_mergeSort (r := fun x y => decide (impl_sorted.key k p x ≤ impl_sorted.key k p y)) (s := fun x y => decide (pM p x ≤ pM p y)) (f := fun x : S52 => x) (l := l) (fun a ha b hb => by rw [hkey a ha, hkey b hb])
  simp only [List.map_id'] at hm
  rw [hm]
  rfl

def IsImg (p a b : Int) (x y : S52) : Prop := pB p y = true ∧ y.f0.f0 = x.f0.f0 + (val p a : Int) ∧ pM p y = (a * pM p x + b * p ^ 6) % p ^ (x.f0.f0 + (val p a : Int) + 6).toNat
theorem meas_ball {p rL rT rD : Int} {l : List S52} (h : measB p rL rT rD l = true) : ballB p rL rT rD = true ∧ (1 ≤ l.length ∧ l.length ≤ 64) ∧ (∀ x ∈ l, pB p x = true) ∧ l.all wB = true := by
  obtain ⟨h1, h2, h3⟩ := measB_parts h
  refine ⟨h1, h2, fun x hx => ?_, ?_⟩
  · obtain ⟨i, hi, rfl⟩ := List.mem_iff_getElem.1 hx
    have := (gB_lv (h3 i hi)).2.2
    rwa [List.getD_eq_getElem?_getD, List.getElem?_eq_getElem hi] at this
  · unfold measB at h
    simp only [Bool.and_eq_true] at h
    exact h.2.2.2
theorem img_nodup {p rL rT rD a b : Int} {l q : List S52} (h : measB p rL rT rD l = true) (ha : a ≠ 0) (hq : q.length = l.length) (hi : ∀ i, i < l.length → IsImg p a b (l.getD i z52) (q.getD i z52)) : (q.map (pM p)).Nodup := by
  have hap := measB_apart h
  obtain ⟨_, _, hb, _⟩ := meas_ball h
  unfold List.Nodup
  rw [List.pairwise_map, List.pairwise_iff_getElem]
  intro i j hi' hj' hij e
  have gi : q[i] = q.getD i z52 := by rw [List.getD_eq_getElem?_getD, List.getElem?_eq_getElem hi']; rfl
  have gj : q[j] = q.getD j z52 := by rw [List.getD_eq_getElem?_getD, List.getElem?_eq_getElem hj']; rfl
  rw [gi, gj] at e
  obtain ⟨_, _, e1⟩ := hi i (by omega)
  obtain ⟨_, _, e2⟩ := hi j (by omega)
  rw [e1, e2] at e
  have bi := hb _ (getD_mem (i := i) (by omega))
  have bj := hb _ (getD_mem (i := j) (by omega))
  obtain ⟨a1, a2⟩ := hap i j hij (by omega)
  rcases Int.le_total (l.getD i z52).f0.f0 (l.getD j z52).f0.f0 with hle | hle
  · have := affine_apart bi bj ha hle e
    unfold hB at a1; rw [this] at a1; cases a1
  · have := affine_apart bj bi ha hle e.symm
    unfold hB at a2; rw [this] at a2; cases a2
theorem aff_loop {p rL rT rD a b : Int} {l : List S52} (h : measB p rL rT rD l = true) (ha : a ≠ 0) (h1 : -1000 ≤ a ∧ a ≤ 1000) (h2 : -1000 ≤ b ∧ b ≤ 1000) (u v w : Int) (hr : Bool) :
    ∃ r : Int × Int × Int × List S52 × Int, r.2.2.2.1.length ≤ 64 ∧ Ev (fun k => impl_AffineImage.l0 k p hr [] l l.length 0 a b 0 1 u v w) r ∧ Ev (fun k => spec_AffineImage.l0 k p [] hr 0 rL rT rD l a b 0 1 u v w) r := by
  obtain ⟨_, hlen, hb, hw⟩ := meas_ball h
  have bad : ∀ (d i : Nat) (q : List S52), i + d = l.length → q.length = i → Ev (fun k => impl_AffineImage.l0 k p false q l l.length (i : Int) a b 0 1 u v w) (0, 0, 0, [], 3) := by
    intro d
    induction d with
    | zero =>
      intro i q hi hq
      refine Ev.up ?_
      simp only [impl_AffineImage.l0, if_neg (show ¬ (i : Int) < (l.length : Int) by omega), Bool.false_eq_true, if_false]
      exact Ev.now _
    | succ d ih =>
      intro i q hi hq
      obtain ⟨r, r1, _, _⟩ := affine_both (hb _ (getD_mem (i := i) (by omega))) ha h1 h2
      refine Ev.up ?_
      simp only [impl_AffineImage.l0, rdP]
      simp only [if_pos (show (i : Int) < (l.length : Int) by omega), if_pos (show (0 : Int) ≤ (i : Int) by omega)]
      refine Ev.bind r1 ?_
      simp only [Bool.false_eq_true, if_false, if_pos (show q.length < 4398046511104 by omega)]
      rw [wid (n := (i : Int) + 1) (by omega) (by omega)]
      exact ih (i + 1) _ (by omega) (by rw [List.length_append, hq]; rfl)
  have key : ∀ (d i : Nat) (q : List S52), i + d = l.length → q.length = i → (∀ j, j < i → IsImg p a b (l.getD j z52) (q.getD j z52)) → (∀ j, j < i → (q.getD j z52).f1 = (l.getD j z52).f1) →
      ∃ r : Int × Int × Int × List S52 × Int, r.2.2.2.1.length ≤ 64 ∧ Ev (fun k => impl_AffineImage.l0 k p true q l l.length (i : Int) a b 0 1 u v w) r ∧ Ev (fun k => spec_AffineImage.l0 k p q true (i : Int) rL rT rD l a b 0 1 u v w) r := by
    intro d
    induction d with
    | zero =>
      intro i q hi hq hImg hW
      obtain rfl : i = l.length := by omega
      have hnd := img_nodup h ha hq hImg
      have hbq : ∀ y ∈ q, pB p y = true := fun y hy => by
        obtain ⟨j, hj, rfl⟩ := List.mem_iff_getElem.1 hy
        have := (hImg j (by omega)).1
        rwa [List.getD_eq_getElem?_getD, List.getElem?_eq_getElem hj] at this
      have hwq : q.all wB = true := by
        rw [← all_range wB, List.all_eq_true]
        intro j hj
        have hj' := List.mem_range.1 hj
        rw [← all_range wB, List.all_eq_true] at hw
        have := hw j (List.mem_range.2 (by omega))
        unfold wB at this ⊢
        rw [hW j (by omega)]; exact this
      refine ⟨(u, v, w, sortW p q, 0), by show (sortW p q).length ≤ 64; rw [sortW_len]; omega, Ev.up ?_, Ev.up ?_⟩
      · simp only [impl_AffineImage.l0, if_neg (show ¬ (l.length : Int) < (l.length : Int) by omega), if_true]
        exact Ev.bind (impl_sorted_ev (by omega) (by omega) hbq hnd) (Ev.now _)
      · simp only [spec_AffineImage.l0, if_neg (show ¬ (l.length : Int) < (l.length : Int) by omega), if_true]
        refine Ev.bind (spec_l08Told_ev (by omega) hbq) ?_
        unfold toldW
        rw [if_pos ⟨by omega, hwq⟩, isortN_sortW hnd]
        exact Ev.now _
    | succ d ih =>
      intro i q hi hq hImg hW
      obtain ⟨r, r1, r2, r3⟩ := affine_both (hb _ (getD_mem (i := i) (by omega))) ha h1 h2
      have hgl : ∀ (y : S52) j, j < i + 1 → (q ++ [y]).getD j z52 = if j = i then y else q.getD j z52 := fun y j hj => by
        rw [List.getD_eq_getElem?_getD, List.getD_eq_getElem?_getD]
        by_cases e : j = i
        · rw [if_pos e, e, ← hq, List.getElem?_append_right (Nat.le_refl _)]; simp
        · rw [if_neg e, List.getElem?_append_left (by omega)]
      obtain ⟨rl, rt, rd', ok⟩ := r
      cases ok with
      | true =>
        have h3 := r3 rfl
        obtain ⟨s, s0, s1, s2⟩ := ih (i + 1) (q ++ [⟨⟨rl, rt, rd'⟩, (l.getD i z52).f1⟩]) (by omega) (by rw [List.length_append, hq]; rfl) (fun j hj => by
          rw [hgl _ j hj]
          by_cases e : j = i
          · rw [if_pos e, e]; exact h3
          · rw [if_neg e]; exact hImg j (by omega)) (fun j hj => by
          rw [hgl _ j hj]
          by_cases e : j = i
          · rw [if_pos e, e]
          · rw [if_neg e]; exact hW j (by omega))
        refine ⟨s, s0, Ev.up ?_, Ev.up ?_⟩
        · simp only [impl_AffineImage.l0, rdP]
          simp only [if_pos (show (i : Int) < (l.length : Int) by omega), if_pos (show (0 : Int) ≤ (i : Int) by omega)]
          refine Ev.bind r1 ?_
          simp only [if_true, if_pos (show q.length < 4398046511104 by omega)]
          rw [wid (n := (i : Int) + 1) (by omega) (by omega)]
          exact s1
        · simp only [spec_AffineImage.l0, rdP]
          simp only [if_pos (show (i : Int) < (l.length : Int) by omega), if_pos (show (0 : Int) ≤ (i : Int) by omega), if_true]
          refine Ev.bind r2 ?_
          simp only [if_pos (show q.length < 4398046511104 by omega)]
          rw [wid (n := (i : Int) + 1) (by omega) (by omega)]
          exact s2
      | false =>
        refine ⟨(0, 0, 0, [], 3), Nat.zero_le _, Ev.up ?_, Ev.up ?_⟩
        · simp only [impl_AffineImage.l0, rdP]
          simp only [if_pos (show (i : Int) < (l.length : Int) by omega), if_pos (show (0 : Int) ≤ (i : Int) by omega)]
          refine Ev.bind r1 ?_
          simp only [if_true, if_pos (show q.length < 4398046511104 by omega)]
          rw [wid (n := (i : Int) + 1) (by omega) (by omega)]
          exact bad d (i + 1) _ (by omega) (by rw [List.length_append, hq]; rfl)
        · simp only [spec_AffineImage.l0, rdP]
          simp only [if_pos (show (i : Int) < (l.length : Int) by omega), if_pos (show (0 : Int) ≤ (i : Int) by omega), if_true]
          refine Ev.bind r2 ?_
          simp only [if_pos (show q.length < 4398046511104 by omega)]
          rw [wid (n := (i : Int) + 1) (by omega) (by omega)]
          refine Ev.up ?_
          simp only [spec_AffineImage.l0, Bool.false_eq_true, if_false]
          split <;> exact Ev.now _
  cases hr with
  | true => exact key l.length 0 [] (by omega) rfl (fun j hj => absurd hj (by omega)) (fun j hj => absurd hj (by omega))
  | false =>
    refine ⟨(0, 0, 0, [], 3), Nat.zero_le _, bad l.length 0 [] (by omega) rfl, Ev.up ?_⟩
    simp only [spec_AffineImage.l0, Bool.false_eq_true, if_false]
    split <;> exact Ev.now _
theorem AffineImage_both (p rL rT rD : Int) (l : List S52) (a b : Int) (hl : l.length ≤ 1048576) : ∃ r : Int × Int × Int × List S52 × Int, r.2.2.2.1.length ≤ 64 ∧ Ev (fun k => impl_AffineImage.f k p rL rT rD l a b) r ∧ Ev (fun k => spec_AffineImage.f k p rL rT rD l a b) r := by
  have hi := impl_IsMeasure_ev (p := p) (rL := rL) (rT := rT) (rD := rD) (l := l) (by omega)
  have hs := spec_l08Is_ev (p := p) (rL := rL) (rT := rT) (rD := rD) (l := l) (by omega)
  cases hm : measB p rL rT rD l with
  | false =>
    rw [hm] at hi hs
    refine ⟨(0, 0, 0, [], 1), Nat.zero_le _, ?_, ?_⟩
    · unfold impl_AffineImage.f
      refine Ev.bind hi ?_
      simp only [Bool.false_eq_true, if_false]
      exact Ev.now _
    · unfold spec_AffineImage.f
      refine Ev.bind hs ?_
      simp only [Bool.false_eq_true, if_false]
      exact Ev.now _
  | true =>
    rw [hm] at hi hs
    obtain ⟨hb, hlen, _⟩ := meas_ball hm
    by_cases ha : a = 0
    · refine ⟨(0, 0, 0, [], 2), Nat.zero_le _, ?_, ?_⟩
      · unfold impl_AffineImage.f
        refine Ev.bind hi ?_
        simp only [if_true, if_pos ha]
        exact Ev.now _
      · unfold spec_AffineImage.f
        refine Ev.bind hs ?_
        simp only [if_true, if_pos ha]
        exact Ev.now _
    have hwi := impl_within_ev 1000 [a, b] (by omega) (by omega) (by simp)
    simp only [List.all_cons, List.all_nil, Bool.and_true] at hwi
    by_cases h1 : -1000 ≤ a ∧ a ≤ 1000
    · by_cases h2 : -1000 ≤ b ∧ b ≤ 1000
      · rw [decide_eq_true h1, decide_eq_true h2] at hwi
        obtain ⟨r, r1, r2, _⟩ := affine_both hb ha h1 h2
        obtain ⟨s, s0, s1, s2⟩ := aff_loop hm ha h1 h2 r.1 r.2.1 r.2.2.1 r.2.2.2
        refine ⟨s, s0, ?_, ?_⟩
        · unfold impl_AffineImage.f
          refine Ev.bind hi ?_
          simp only [if_true, if_neg ha]
          refine Ev.bind hwi ?_
          simp only [Bool.and_self, if_true]
          exact Ev.bind r1 s1
        · unfold spec_AffineImage.f
          refine Ev.bind hs ?_
          simp only [if_true, if_neg ha]
          refine Ev.bindv (In_eq _ _ _) ?_
          simp only [decide_eq_true h1, if_true]
          refine Ev.bindv (In_eq _ _ _) ?_
          simp only [decide_eq_true h2, if_true]
          exact Ev.bind r2 s2
      · rw [decide_eq_true h1, decide_eq_false h2] at hwi
        refine ⟨(0, 0, 0, [], 2), Nat.zero_le _, ?_, ?_⟩
        · unfold impl_AffineImage.f
          refine Ev.bind hi ?_
          simp only [if_true, if_neg ha]
          refine Ev.bind hwi ?_
          simp only [Bool.and_false, Bool.false_eq_true, if_false]
          exact Ev.now _
        · unfold spec_AffineImage.f
          refine Ev.bind hs ?_
          simp only [if_true, if_neg ha]
          refine Ev.bindv (In_eq _ _ _) ?_
          simp only [decide_eq_true h1, if_true]
          refine Ev.bindv (In_eq _ _ _) ?_
          simp only [decide_eq_false h2, Bool.false_eq_true, if_false]
          exact Ev.now _
    · rw [decide_eq_false h1] at hwi
      refine ⟨(0, 0, 0, [], 2), Nat.zero_le _, ?_, ?_⟩
      · unfold impl_AffineImage.f
        refine Ev.bind hi ?_
        simp only [if_true, if_neg ha]
        refine Ev.bind hwi ?_
        simp only [Bool.false_and, Bool.false_eq_true, if_false]
        exact Ev.now _
      · unfold spec_AffineImage.f
        refine Ev.bind hs ?_
        simp only [if_true, if_neg ha]
        refine Ev.bindv (In_eq _ _ _) ?_
        simp only [decide_eq_false h1, Bool.false_eq_true, if_false]
        exact Ev.now _

def convP (x : S98) : S52 := ⟨⟨x.f0.f0, x.f0.f1, x.f0.f2⟩, x.f1⟩
theorem laws_toBall_eq (a b c : Int) : laws_toBall.f a b c = some (a, b, c) := by simp [laws_toBall.f]
theorem laws_eqBall_eq (a b c : Int) : laws_eqBall.f a b c a b c = some true := by simp [laws_eqBall.f]
theorem laws_toPiece_eq (a b c d : Int) : laws_toPiece.f a b c d = some (a, b, c, d) := by simp only [laws_toPiece.f, laws_toBall_eq, Option.bind_some]
theorem laws_eqPiece_eq (a b c d : Int) : laws_eqPiece.f a b c d a b c d = some true := by simp only [laws_eqPiece.f, laws_eqBall_eq, Option.bind_some, if_true]
theorem laws_toPieceS_ev (l : List S98) (hl : l.length ≤ 8796093022208) : Ev (fun k => laws_toPieceS.f k l) (l.map convP) := by
  refine Ev.congr (f := fun k => laws_toPieceS.l0 k l (List.replicate l.length z52) 0) (fun k => ?_) ?_
  · unfold laws_toPieceS.f
    rw [if_pos (by omega), if_pos (by rw [Int.toNat_natCast]; exact hl), Int.toNat_natCast]
  · refine copy_ev' (fun k dst i => laws_toPieceS.l0 k l dst i) (l.map convP) ?_ ?_ _ (by simp)
    · intro dst i h r hd hr
      have hi : i < l.length := by simpa using h
      have hd' : dst.length = l.length := by simpa using hd
      have e : (l.map convP)[i] = convP l[i] := by simp
      rw [e] at hr
      have er : rd_T98 l (i : Int) = l[i] := by
        show l.getD i z98 = l[i]
        rw [List.getD_eq_getElem?_getD, List.getElem?_eq_getElem hi]; rfl
      refine Ev.step (f := fun k => laws_toPieceS.l0 k l (dst.set i (convP l[i])) ((i : Int) + 1)) (fun k => ?_) hr
      simp only [laws_toPieceS.l0, er, laws_toPiece_eq, Option.bind_some]
      simp only [if_pos (show (i : Int) < (l.length : Int) by omega), if_pos (show (0 : Int) ≤ (i : Int) by omega), if_pos (show (i : Int) < (dst.length : Int) by omega), Int.toNat_natCast, wid (n := (i : Int) + 1) (by omega) (by omega)]
      rfl
    · intro dst hd
      refine Ev.step (f := fun _ => some dst) (fun k => ?_) (Ev.now _)
      simp only [laws_toPieceS.l0]
      rw [if_neg (by simp)]
theorem laws_eqPieceS_ev (l : List S52) (hl : l.length ≤ 4611686018427387904) : Ev (fun k => laws_eqPieceS.f k l l) true := by
  have key : ∀ (d i : Nat), i + d = l.length → Ev (fun k => laws_eqPieceS.l0 k l l i) true := by
    intro d
    induction d with
    | zero => intro i hi; exact Ev.step (f := fun _ => some true) (fun k => by simp only [laws_eqPieceS.l0]; rw [if_neg (by omega)]) (Ev.now _)
    | succ d ih =>
      intro i hi
      refine Ev.step (f := fun k => laws_eqPieceS.l0 k l l ((i + 1 : Nat) : Int)) (fun k => ?_) (ih (i + 1) (by omega))
      simp only [laws_eqPieceS.l0, laws_eqPiece_eq, Option.bind_some, if_true]
      rw [if_pos (by omega), if_pos (by omega), if_pos (by omega), wid (n := (i : Int) + 1) (by omega) (by omega)]; rfl
  refine Ev.congr (f := fun k => laws_eqPieceS.l0 k l l 0) (fun k => ?_) (key l.length 0 (by omega))
  unfold laws_eqPieceS.f; rw [if_pos rfl]
theorem laws_toMeasure_ev (a b c : Int) (l : List S98) (hl : l.length ≤ 8796093022208) : Ev (fun k => laws_toMeasure.f k a b c l) (a, b, c, l.map convP) := by
  unfold laws_toMeasure.f
  refine Ev.bindv (laws_toBall_eq a b c) (Ev.bind (laws_toPieceS_ev l hl) (Ev.now _))
theorem laws_eqMeasure_ev (a b c : Int) (l : List S52) (hl : l.length ≤ 4611686018427387904) : Ev (fun k => laws_eqMeasure.f k a b c l a b c l) true := by
  unfold laws_eqMeasure.f
  refine Ev.bindv (laws_eqBall_eq a b c) ?_
  simp only [if_true]
  refine Ev.bind (laws_eqPieceS_ev l hl) ?_
  simp only [if_true]
  exact Ev.now _
theorem szP (n : Nat) (hn : n ≤ maxLen) : wrap64 (1048576 - (n : Int)) = 1048576 - (n : Int) := by
  have : maxLen = 9223372036854775807 := rfl
  exact wid (by omega) (by omega)
theorem laws_szMeasure_eq (a b c : Int) (l : List S98) (hl : l.length ≤ maxLen) : laws_szMeasure.f a b c l 1048576 = some (if 1048576 - (l.length : Int) < 0 then -1 else 1048576 - (l.length : Int)) := by
  unfold laws_szMeasure.f laws_szPieceS.f
  rw [szP l.length hl]
  by_cases h : 1048576 - (l.length : Int) < 0
  · simp only [if_pos h, Option.bind_some, if_pos (show (-1 : Int) < 0 by decide)]
  · simp only [if_neg h, Option.bind_some]

theorem rdPi_set {x : List S52} {i : Nat} (h : i < x.length) (v : S52) : rd_T52 (x.set i v) (i : Int) = v := by
  show (x.set i v).getD i z52 = v
  rw [List.getD_eq_getElem?_getD, List.getElem?_set_self h]; rfl
def mkP (j : Nat) : S52 := ⟨⟨1 + 4 * (j : Int), 1 + 4 * (j : Int) + 1, 1 + 4 * (j : Int) + 1 + 1⟩, 1 + 4 * (j : Int) + 1 + 1 + 1⟩
theorem getDP_set {x : List S52} {i j : Nat} (h : i < x.length) (v : S52) : (x.set i v).getD j z52 = if j = i then v else x.getD j z52 := by
  rw [List.getD_eq_getElem?_getD, List.getElem?_set]
  by_cases e : i = j
  · rw [if_pos e, if_pos e.symm, if_pos h]; rfl
  · rw [if_neg e, if_neg (fun h => e h.symm), List.getD_eq_getElem?_getD]
theorem markPieceS_at (l : List S52) (hl : l.length ≤ 1048576) (s : Int) (h0 : 0 ≤ s) (h1 : s ≤ 1073741824) : ∃ x, Ev (fun k => laws_markPieceS.f k l s) (s + 4 * (l.length : Int), x) := by
  have key : ∀ (d i : Nat) (x : List S52), i + d = l.length → x.length = l.length → ∃ x', Ev (fun k => laws_markPieceS.l0 k x (s + 4 * (i : Int)) i) (s + 4 * (l.length : Int), x') := by
    intro d
    induction d with
    | zero =>
      intro i x hi hx
      obtain rfl : i = l.length := by omega
      refine ⟨x, Ev.up ?_⟩
      simp only [laws_markPieceS.l0, if_neg (show ¬ (l.length : Int) < (x.length : Int) by omega)]
      exact Ev.now _
    | succ d ih =>
      intro i x hi hx
      have hix : i < x.length := by omega
      obtain ⟨x', h'⟩ := ih (i + 1) (x.set i ⟨⟨s + 4 * (i : Int), s + 4 * (i : Int) + 1, s + 4 * (i : Int) + 1 + 1⟩, s + 4 * (i : Int) + 1 + 1 + 1⟩) (by omega) (by rw [List.length_set]; exact hx)
      refine ⟨x', Ev.up ?_⟩
      simp only [laws_markPieceS.l0, if_pos (show (i : Int) < (x.length : Int) by omega), if_pos (show (0 : Int) ≤ (i : Int) by omega), Option.bind_some, Int.toNat_natCast]
      rw [wid (n := s + 4 * (i : Int) + 1) (by omega) (by omega), wid (n := s + 4 * (i : Int) + 1 + 1) (by omega) (by omega), wid (n := s + 4 * (i : Int) + 1 + 1 + 1) (by omega) (by omega), wid (n := s + 4 * (i : Int) + 1 + 1 + 1 + 1) (by omega) (by omega), wid (n := (i : Int) + 1) (by omega) (by omega)]
      simp only [rdPi_set hix, List.set_set]
      rw [show s + 4 * (i : Int) + 1 + 1 + 1 + 1 = s + 4 * ((i + 1 : Nat) : Int) by omega]
      exact h'
  obtain ⟨x, hx⟩ := key l.length 0 l (by omega) rfl
  refine ⟨x, ?_⟩
  unfold laws_markPieceS.f
  rw [show s + 4 * ((0 : Nat) : Int) = s by omega] at hx
  exact hx
theorem markMeasure_at (a b c : Int) (l : List S52) (hl : l.length ≤ 1048576) (s : Int) (h0 : 0 ≤ s) (h1 : s ≤ 1073741824) : ∃ x, Ev (fun k => laws_markMeasure.f k a b c l s) (s + 4 * (l.length : Int), x) := by
  obtain ⟨x, h⟩ := markPieceS_at l hl s h0 h1
  unfold laws_markMeasure.f
  exact ⟨x, Ev.bind h (Ev.now _)⟩
theorem markMeasure_held (a b c : Int) (l : List S52) (hl : l.length ≤ 1048576) : ∃ x, Ev (fun k => laws_markMeasure.f k a b c l 1) (1 + 4 * (l.length : Int), x) ∧ ∀ a' b' c', Ev (fun k => laws_heldMeasure.f k a' b' c' x 1) (1 + 4 * (l.length : Int)) := by
  have key : ∀ (d i : Nat) (x : List S52), i + d = l.length → x.length = l.length → (∀ j, j < i → x.getD j z52 = mkP j) → ∃ x', (x'.length = l.length ∧ ∀ j, j < l.length → x'.getD j z52 = mkP j) ∧ Ev (fun k => laws_markPieceS.l0 k x (1 + 4 * (i : Int)) i) (1 + 4 * (l.length : Int), x') := by
    intro d
    induction d with
    | zero =>
      intro i x hi hx hj
      obtain rfl : i = l.length := by omega
      refine ⟨x, ⟨hx, hj⟩, Ev.up ?_⟩
      simp only [laws_markPieceS.l0, if_neg (show ¬ (l.length : Int) < (x.length : Int) by omega)]
      exact Ev.now _
    | succ d ih =>
      intro i x hi hx hj
      have hix : i < x.length := by omega
      obtain ⟨x', q', h'⟩ := ih (i + 1) (x.set i (mkP i)) (by omega) (by rw [List.length_set]; exact hx) (fun j hj2 => by
        rw [getDP_set hix]
        by_cases e : j = i
        · rw [if_pos e, e]
        · rw [if_neg e]; exact hj j (by omega))
      refine ⟨x', q', Ev.up ?_⟩
      simp only [laws_markPieceS.l0, if_pos (show (i : Int) < (x.length : Int) by omega), if_pos (show (0 : Int) ≤ (i : Int) by omega), Option.bind_some, Int.toNat_natCast]
      rw [wid (n := 1 + 4 * (i : Int) + 1) (by omega) (by omega), wid (n := 1 + 4 * (i : Int) + 1 + 1) (by omega) (by omega), wid (n := 1 + 4 * (i : Int) + 1 + 1 + 1) (by omega) (by omega), wid (n := 1 + 4 * (i : Int) + 1 + 1 + 1 + 1) (by omega) (by omega), wid (n := (i : Int) + 1) (by omega) (by omega)]
      simp only [rdPi_set hix, List.set_set]
      rw [show 1 + 4 * (i : Int) + 1 + 1 + 1 + 1 = 1 + 4 * ((i + 1 : Nat) : Int) by omega]
      exact h'
  obtain ⟨x, ⟨x1, x2⟩, hx⟩ := key l.length 0 l (by omega) rfl (fun j hj => absurd hj (by omega))
  have held : ∀ (d i : Nat), i + d = x.length → Ev (fun k => laws_heldPieceS.l0 k x (1 + 4 * (i : Int)) i) (1 + 4 * (x.length : Int)) := by
    intro d
    induction d with
    | zero =>
      intro i hi
      obtain rfl : i = x.length := by omega
      refine Ev.up ?_
      simp only [laws_heldPieceS.l0, if_neg (show ¬ (x.length : Int) < (x.length : Int) by omega)]
      exact Ev.now _
    | succ d ih =>
      intro i hi
      have e : rd_T52 x (i : Int) = mkP i := x2 i (by omega)
      refine Ev.up ?_
      simp only [laws_heldPieceS.l0, if_pos (show (i : Int) < (x.length : Int) by omega), if_pos (show (0 : Int) ≤ (i : Int) by omega), e]
      rw [wid (n := 1 + 4 * (i : Int) + 1) (by omega) (by omega), wid (n := 1 + 4 * (i : Int) + 1 + 1) (by omega) (by omega), wid (n := 1 + 4 * (i : Int) + 1 + 1 + 1) (by omega) (by omega), wid (n := 1 + 4 * (i : Int) + 1 + 1 + 1 + 1) (by omega) (by omega), wid (n := (i : Int) + 1) (by omega) (by omega)]
      unfold mkP
      simp only [if_true]
      rw [show 1 + 4 * (i : Int) + 1 + 1 + 1 + 1 = 1 + 4 * ((i + 1 : Nat) : Int) by omega]
      exact ih (i + 1) (by omega)
  refine ⟨x, ?_, fun a' b' c' => ?_⟩
  · unfold laws_markMeasure.f
    exact Ev.bind hx (Ev.now _)
  · unfold laws_heldMeasure.f
    refine Ev.bind (held x.length 0 (by omega)) ?_
    rw [x1]
    simp only [if_neg (show ¬ 1 + 4 * (l.length : Int) < 0 by omega)]
    exact Ev.now _

theorem FnExactAffineImage : laws_FnExactAffineImage.Pure := by
  intro p a b c l d e _ _ _ _ hmax _ _ _
  refine Ev.rounds ?_
  unfold laws_FnExactAffineImage.f
  refine Ev.bindv (laws_szMeasure_eq a b c l hmax) ?_
  by_cases hbig : 1048576 - (l.length : Int) < 0
  · simp only [if_pos hbig, if_pos (show (-1 : Int) < 0 by decide)]; exact Ev.now _
  simp only [if_neg hbig]
  have hto := laws_toMeasure_ev a b c l (by omega)
  have hlen : (l.map convP).length = l.length := by simp
  obtain ⟨R, hrl, hi, hs⟩ := AffineImage_both p a b c (l.map convP) d e (by omega)
  obtain ⟨u, v, w, q, code⟩ := R
  have hq : q.length ≤ 64 := hrl
  have heq := laws_eqMeasure_ev u v w q (by omega)
  obtain ⟨x1, hx1⟩ := markMeasure_at a b c (l.map convP) (by omega) 1 (by omega) (by omega)
  obtain ⟨x3, hx3, hheld⟩ := markMeasure_held u v w q (by omega)
  refine Ev.bind hto (Ev.bind hs (Ev.bind hto (Ev.bind hi (Ev.bind heq ?_))))
  simp only [if_true]
  refine Ev.bind hto (Ev.bind (laws_eqMeasure_ev _ _ _ _ (by omega)) ?_)
  simp only [if_true]
  refine Ev.bind hx1 ?_
  simp only [if_neg (show ¬ 1 + 4 * ((l.map convP).length : Int) < 0 by omega)]
  refine Ev.bind heq ?_
  simp only [if_true]
  refine Ev.bind hx3 (Ev.bind (hheld u v w) ?_)
  simp only [if_neg (show ¬ 1 + 4 * (q.length : Int) < 0 by omega), if_true]
  refine Ev.bind hto (Ev.bind hi (Ev.bind heq ?_))
  simp only [if_true]
  refine Ev.bind (hheld u v w) ?_
  simp only [if_neg (show ¬ 1 + 4 * (q.length : Int) < 0 by omega), if_true]
  exact Ev.now _

end Go.Proofs.Ytbldceikdajdlaa.Pure
