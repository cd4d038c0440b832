/- For every p, ball and word, ReverseSteps of the program and of the reference return the same word and code; no condition beyond the row's. -/
import Derived.Test.YtbilincmcnnonaaQRx42
namespace Go.Proofs.Ytbilincmcnnonaa.Pure
open Go.RowKit Go.Proofs.Ytbilincmcnnonaa.QR Go.Proofs.YtbilincmcnnonaaW.PrintWords Go.Proofs.YtbilincmcnnonaaW.PrintLast
set_option linter.unusedVariables false
set_option linter.unusedSimpArgs false
set_option linter.unusedSectionVars false

theorem wid {n : Int} (h0 : -9223372036854775808 ≤ n) (h1 : n ≤ 9223372036854775807) : wrap64 n = n := by unfold wrap64; omega
theorem Ev.val {α : Type} {o : Option α} {r : α} (h : o = some r) : Ev (fun _ => o) r := ⟨0, fun _ _ => h⟩
theorem Ev.bindv {α β : Type} {o : Option α} {f : Nat → α → Option β} {a : α} {r : β} (h : o = some a) (k : Ev (fun n => f n a) r) : Ev (fun n => o.bind (f n)) r := by
  subst h; exact k

def powW (p : Int) : Nat → Int → Int
  | 0, acc => acc
  | n + 1, acc => powW p n (wrap64 (acc * p))

def primeB (p : Int) : Bool := p == 2 || (p == 3 || (p == 5 || p == 7))
theorem prime_cases {p : Int} (h : primeB p = true) : p = 2 ∨ p = 3 ∨ p = 5 ∨ p = 7 := by
  simpa [primeB] using h
theorem prime_lo {p : Int} (h : primeB p = true) : 2 ≤ p := by rcases prime_cases h with h | h | h | h <;> omega
theorem prime_hi {p : Int} (h : primeB p = true) : p ≤ 7 := by rcases prime_cases h with h | h | h | h <;> omega

theorem ipow_pos {p : Int} (hp : 1 ≤ p) (n : Nat) : (1 : Int) ≤ p ^ n := by
  have := Int.pow_pos (n := p) (m := n) (by omega)
  omega
theorem ipow_mono {p : Int} (hp : 1 ≤ p) {m n : Nat} (h : m ≤ n) : p ^ m ≤ p ^ n := by
  obtain ⟨d, rfl⟩ : ∃ d, n = m + d := ⟨n - m, by omega⟩
  rw [Int.pow_add]
  have h1 := ipow_pos hp m
  have h2 := ipow_pos hp d
  have := Int.mul_le_mul_of_nonneg_left h2 (show 0 ≤ p ^ m by omega)
  rwa [Int.mul_one] at this
theorem powW_fit (p : Int) (hp : 1 ≤ p) (n : Nat) : ∀ (acc : Int), 0 ≤ acc → acc * p ^ n ≤ 9223372036854775807 → powW p n acc = acc * p ^ n := by
  induction n with
  | zero => intro acc _ _; simp [powW]
  | succ n ih =>
    intro acc h0 h
    have hpn : (1 : Int) ≤ p ^ n := ipow_pos hp n
    have e : acc * p ^ (n + 1) = acc * p * p ^ n := by rw [Int.pow_succ, Int.mul_comm (p ^ n) p, ← Int.mul_assoc]
    have h1 : 0 ≤ acc * p := Int.mul_nonneg h0 (by omega)
    have h2 : acc * p ≤ acc * p * p ^ n := by
      have := Int.mul_le_mul_of_nonneg_left hpn h1
      rwa [Int.mul_one] at this
    simp only [powW]
    rw [wid (by omega) (by omega), ih _ h1 (by omega), e]
theorem pow_le_top {p : Int} (h : primeB p = true) (n : Nat) (hn : n ≤ 22) : p ^ n ≤ 9223372036854775807 := by
  have hp := prime_lo h
  have h1 : p ^ n ≤ p ^ 22 := ipow_mono (by omega) hn
  have h2 : p ^ 22 ≤ 9223372036854775807 := by
    rcases prime_cases h with rfl | rfl | rfl | rfl <;> decide
  omega
theorem powW_prime {p : Int} (h : primeB p = true) (n : Nat) (hn : n ≤ 22) : powW p n 1 = p ^ n := by
  have hp := prime_lo h
  rw [powW_fit p (by omega) n 1 (by omega) (by rw [Int.one_mul]; exact pow_le_top h n hn), Int.one_mul]

def ballB (p L T D : Int) : Bool :=
  primeB p && (decide (-6 ≤ L ∧ L ≤ 6) && (decide (0 ≤ D ∧ D ≤ 6) && (if L + D ≤ 0 then T == 0 && D == 0 else decide (0 ≤ T ∧ T < p ^ (L + D).toNat) && (D == 0 || !(Int.tmod T p == 0)))))

def valF (p : Int) : Nat → Int → Nat
  | 0, _ => 0
  | f + 1, n => if n % p = 0 then valF p f (n / p) + 1 else 0
def val (p n : Int) : Nat := valF p n.natAbs n
theorem valF_spec {p : Int} (hp : 2 ≤ p) (f : Nat) : ∀ n : Int, n ≠ 0 → n.natAbs ≤ f → ∃ u, n = p ^ (valF p f n) * u ∧ ¬ p ∣ u := by
  induction f with
  | zero => intro n h0 hf; omega
  | succ f ih =>
    intro n h0 hf
    unfold valF
    by_cases h : n % p = 0
    · rw [if_pos h]
      obtain ⟨q, hq⟩ := Int.dvd_of_emod_eq_zero h
      have hq0 : q ≠ 0 := by intro e; subst e; simp at hq; exact h0 hq
      have hdiv : n / p = q := by rw [hq]; exact Int.mul_ediv_cancel_left q (by omega)
      rw [hdiv]
      have hlt : q.natAbs ≤ f := by
        have : n.natAbs = p.natAbs * q.natAbs := by rw [hq, Int.natAbs_mul]
        have h2 : 2 * q.natAbs ≤ p.natAbs * q.natAbs := Nat.mul_le_mul_right _ (by omega)
        omega
      obtain ⟨u, hu, hn⟩ := ih q hq0 hlt
      refine ⟨u, ?_, hn⟩
      conv => lhs; rw [hq, hu]
      rw [Int.pow_succ', Int.mul_assoc]
    · rw [if_neg h]
      exact ⟨n, by simp, fun hd => h (Int.emod_eq_zero_of_dvd hd)⟩
theorem val_spec {p n : Int} (hp : 2 ≤ p) (h : n ≠ 0) : ∃ u, n = p ^ (val p n) * u ∧ ¬ p ∣ u := valF_spec hp _ n h (Nat.le_refl _)
theorem pow_unique {p u u' : Int} (hp : 2 ≤ p) (hu : ¬ p ∣ u) (hu' : ¬ p ∣ u') : ∀ (v v' : Nat), p ^ v * u = p ^ v' * u' → v = v' := by
  have key : ∀ (v d : Nat) (x x' : Int), ¬ p ∣ x → p ^ v * x = p ^ (v + (d + 1)) * x' → False := by
    intro v d x x' hx h
    rw [Int.pow_add, Int.mul_assoc] at h
    have h2 : x = p ^ (d + 1) * x' := Int.eq_of_mul_eq_mul_left (Int.pow_ne_zero (by omega)) h
    apply hx
    rw [h2, Int.pow_succ', Int.mul_assoc]
    exact Int.dvd_mul_right _ _
  intro v v' h
  rcases Nat.lt_trichotomy v v' with h1 | h1 | h1
  · obtain ⟨d, rfl⟩ : ∃ d, v' = v + (d + 1) := ⟨v' - v - 1, by omega⟩
    exact (key v d u u' hu h).elim
  · exact h1
  · obtain ⟨d, rfl⟩ : ∃ d, v = v' + (d + 1) := ⟨v - v' - 1, by omega⟩
    exact (key v' d u' u hu' h.symm).elim
theorem val_eq {p n u : Int} {v : Nat} (hp : 2 ≤ p) (h : n = p ^ v * u) (hu : ¬ p ∣ u) : val p n = v := by
  have hn : n ≠ 0 := by
    intro e; rw [e] at h
    rcases Int.mul_eq_zero.1 h.symm with h | h
    · exact Int.pow_ne_zero (by omega) h
    · exact hu (by rw [h]; exact Int.dvd_zero p)
  obtain ⟨u', h', hu'⟩ := val_spec hp hn
  exact pow_unique hp hu' hu _ _ (h'.symm.trans h)
theorem val_pow_mul {p e : Int} (j : Nat) (hp : 2 ≤ p) (he : e ≠ 0) : val p (p ^ j * e) = j + val p e := by
  obtain ⟨u, h, hu⟩ := val_spec hp he
  refine val_eq hp (u := u) ?_ hu
  conv => lhs; rw [h]
  rw [Int.pow_add, Int.mul_assoc]
theorem val_dvd {p n : Int} (hp : 2 ≤ p) (h : n ≠ 0) (j : Nat) : p ^ j ∣ n ↔ j ≤ val p n := by
  obtain ⟨u, hu, hn⟩ := val_spec hp h
  constructor
  · rintro ⟨q, hq⟩
    rcases Nat.lt_or_ge (val p n) j with h1 | h1
    · exfalso
      obtain ⟨d, hd⟩ : ∃ d, j = val p n + (d + 1) := ⟨j - val p n - 1, by omega⟩
      have h2 : p ^ (val p n) * u = p ^ (val p n) * (p ^ (d + 1) * q) := by
        have e : n = p ^ (val p n) * (p ^ (d + 1) * q) := by rw [← Int.mul_assoc, ← Int.pow_add, ← hd]; exact hq
        exact hu.symm.trans e
      have h3 := Int.eq_of_mul_eq_mul_left (Int.pow_ne_zero (by omega)) h2
      apply hn
      rw [h3, Int.pow_succ', Int.mul_assoc]
      exact Int.dvd_mul_right _ _
    · exact h1
  · intro h1
    obtain ⟨d, hd⟩ : ∃ d, val p n = j + d := ⟨val p n - j, by omega⟩
    refine ⟨p ^ d * u, ?_⟩
    conv => lhs; rw [hu, hd, Int.pow_add, Int.mul_assoc]
theorem val_le_of_lt {p n : Int} (hp : 2 ≤ p) (h : n ≠ 0) (j : Nat) (hlt : n.natAbs < 2 ^ j) : val p n < j := by
  rcases Nat.lt_or_ge (val p n) j with h1 | h1
  · exact h1
  · exfalso
    obtain ⟨q, hq⟩ := (val_dvd hp h j).2 h1
    have hq0 : q ≠ 0 := by intro e; subst e; simp at hq; exact h hq
    have : n.natAbs = p.natAbs ^ j * q.natAbs := by rw [hq, Int.natAbs_mul, Int.natAbs_pow]
    have h2 : 2 ^ j ≤ p.natAbs ^ j := Nat.pow_le_pow_left (by omega) j
    have h3 : p.natAbs ^ j * 1 ≤ p.natAbs ^ j * q.natAbs := Nat.mul_le_mul_left _ (by omega)
    omega
theorem tdiv_bdv {x M : Int} (g : Int) (hx : -M ≤ x ∧ x ≤ M) : -M ≤ Int.tdiv x g ∧ Int.tdiv x g ≤ M := by
  have := Int.natAbs_tdiv_le_natAbs x g
  omega

theorem pow_13 {p : Int} (hp : primeB p = true) (n : Nat) (h : n ≤ 12) : p ^ n ≤ 13841287201 := by
  have hp2 := prime_lo hp
  have h1 : p ^ n ≤ p ^ 12 := ipow_mono (by omega) h
  have h2 : p ^ 12 ≤ 13841287201 := by rcases prime_cases hp with rfl | rfl | rfl | rfl <;> decide
  omega
def markOf (p T D : Int) : Int := T * p ^ (6 - D).toNat
def ofM (p L X : Int) : Int × Int × Int :=
  let x := X % p ^ (L + 6).toNat
  let dn : Int := if x = 0 then 0 else if (val p x : Int) < 6 then 6 - val p x else 0
  (L, x / p ^ (6 - dn).toNat, dn)
theorem ofM_of {p L X T D : Int} (hp : 2 ≤ p) (hx : X % p ^ (L + 6).toNat = T * p ^ (6 - D).toNat) (hD : 0 ≤ D ∧ D ≤ 6) (hu : D = 0 ∨ ¬ p ∣ T) : ofM p L X = (L, T, D) := by
  unfold ofM
  simp only [hx]
  have hpow : ∀ j : Nat, p ^ j ≠ 0 := fun j => Int.pow_ne_zero (by omega)
  by_cases h0 : T * p ^ (6 - D).toNat = 0
  · have hT : T = 0 := by
      rcases Int.mul_eq_zero.1 h0 with h | h
      · exact h
      · exact absurd h (hpow _)
    have hD0 : D = 0 := by
      rcases hu with h | h
      · exact h
      · exact absurd (by rw [hT]; exact Int.dvd_zero p) h
    subst hT; subst hD0
    simp
  · rw [if_neg h0]
    have hT : T ≠ 0 := by intro e; rw [e] at h0; simp at h0
    have hv : val p (T * p ^ (6 - D).toNat) = (6 - D).toNat + val p T := by rw [Int.mul_comm]; exact val_pow_mul _ hp hT
    have hdn : (if ((val p (T * p ^ (6 - D).toNat) : Nat) : Int) < 6 then 6 - ((val p (T * p ^ (6 - D).toNat) : Nat) : Int) else 0) = D := by
      rw [hv]
      rcases hu with h | h
      · rw [if_neg (by omega)]; exact h.symm
      · have : val p T = 0 := val_eq hp (u := T) (by simp) h
        rw [this]
        by_cases hd : D = 0
        · rw [if_neg (by omega)]; exact hd.symm
        · rw [if_pos (by omega)]; omega
    rw [hdn, Int.mul_ediv_cancel _ (hpow _)]
theorem ofM_mod (p L X : Int) : ofM p L (X % p ^ (L + 6).toNat) = ofM p L X := by unfold ofM; simp only [Int.emod_emod]
theorem ofM_back {p L X : Int} (hp : 2 ≤ p) : (ofM p L X).2.1 * p ^ (6 - (ofM p L X).2.2).toNat = X % p ^ (L + 6).toNat ∧ (0 ≤ (ofM p L X).2.2 ∧ (ofM p L X).2.2 ≤ 6) ∧ ((ofM p L X).2.2 = 0 ∨ ¬ p ∣ (ofM p L X).2.1) := by
  unfold ofM
  simp only
  generalize hx : X % p ^ (L + 6).toNat = x
  by_cases h0 : x = 0
  · rw [if_pos h0]; simp [h0]
  · rw [if_neg h0]
    obtain ⟨u, hu, hn⟩ := val_spec hp h0
    have hpow : ∀ j : Nat, p ^ j ≠ 0 := fun j => Int.pow_ne_zero (by omega)
    by_cases hv : ((val p x : Nat) : Int) < 6
    · rw [if_pos hv]
      have e : (6 - (6 - ((val p x : Nat) : Int))).toNat = val p x := by omega
      rw [e]
      have hq : x / p ^ val p x = u := by
        conv => lhs; lhs; rw [hu]
        exact Int.mul_ediv_cancel_left _ (hpow _)
      rw [hq]
      refine ⟨?_, by omega, .inr hn⟩
      rw [Int.mul_comm]; exact hu.symm
    · rw [if_neg hv]
      refine ⟨?_, by omega, .inl rfl⟩
      have hd : p ^ (6 - (0 : Int)).toNat ∣ x := (val_dvd hp h0 _).2 (by omega)
      exact Int.ediv_mul_cancel hd
theorem ofM_inj {p L X Y : Int} (hp : 2 ≤ p) : ofM p L X = ofM p L Y ↔ X % p ^ (L + 6).toNat = Y % p ^ (L + 6).toNat := by
  constructor
  · intro h
    rw [← (ofM_back (X := X) hp).1, ← (ofM_back (X := Y) hp).1, h]
  · intro h
    rw [← ofM_mod p L X, h, ofM_mod]
theorem ball_parts {p L T D : Int} (h : ballB p L T D = true) : primeB p = true ∧ (-6 ≤ L ∧ L ≤ 6) ∧ (0 ≤ D ∧ D ≤ 6) ∧ (L + D ≤ 0 → T = 0 ∧ D = 0) ∧ (0 < L + D → (0 ≤ T ∧ T < p ^ (L + D).toNat) ∧ (D = 0 ∨ ¬ p ∣ T)) := by
  unfold ballB at h
  simp only [Bool.and_eq_true, decide_eq_true_eq] at h
  obtain ⟨h1, h2, h3, h4⟩ := h
  refine ⟨h1, h2, h3, ?_, ?_⟩
  · intro hn; rw [if_pos hn] at h4; simpa using h4
  · intro hn
    rw [if_neg (by omega)] at h4
    simp only [Bool.and_eq_true, decide_eq_true_eq, Bool.or_eq_true, beq_iff_eq, Bool.not_eq_true', beq_eq_false_iff_ne] at h4
    refine ⟨h4.1, ?_⟩
    rcases h4.2 with h5 | h5
    · exact .inl h5
    · exact .inr (fun hd => h5 (Int.tmod_eq_zero_of_dvd hd))
theorem mark_lt {p L T D : Int} (h : ballB p L T D = true) : 0 ≤ markOf p T D ∧ markOf p T D < p ^ (L + 6).toNat := by
  obtain ⟨hp, hL, hD, h0, h1⟩ := ball_parts h
  have hp2 := prime_lo hp
  unfold markOf
  by_cases hn : L + D ≤ 0
  · rw [(h0 hn).1]
    have := ipow_pos (p := p) (by omega) (L + 6).toNat
    omega
  · obtain ⟨⟨a, b⟩, _⟩ := h1 (by omega)
    have hq := ipow_pos (p := p) (by omega) (6 - D).toNat
    refine ⟨Int.mul_nonneg a (by omega), ?_⟩
    have e : p ^ (L + 6).toNat = p ^ (L + D).toNat * p ^ (6 - D).toNat := by rw [← Int.pow_add]; congr 1; omega
    rw [e]
    exact Int.mul_lt_mul_of_pos_right b (by omega)
theorem mark_mod {p L T D : Int} (h : ballB p L T D = true) : markOf p T D % p ^ (L + 6).toNat = markOf p T D := Int.emod_eq_of_lt (mark_lt h).1 (mark_lt h).2
theorem ball_unit {p L T D : Int} (h : ballB p L T D = true) : D = 0 ∨ ¬ p ∣ T := by
  obtain ⟨_, _, _, h0, h1⟩ := ball_parts h
  by_cases hn : L + D ≤ 0
  · exact .inl (h0 hn).2
  · exact (h1 (by omega)).2
theorem ofM_mark {p L T D : Int} (h : ballB p L T D = true) : ofM p L (markOf p T D) = (L, T, D) :=
  ofM_of (prime_lo (ball_parts h).1) (mark_mod h) (ball_parts h).2.2.1 (ball_unit h)
theorem ofM_ball {p L X : Int} (hp : primeB p = true) (hL : -6 ≤ L ∧ L ≤ 6) : ballB p L (ofM p L X).2.1 (ofM p L X).2.2 = true := by
  have hp2 := prime_lo hp
  obtain ⟨hx, hD, hu⟩ := ofM_back (p := p) (L := L) (X := X) hp2
  have hpos := ipow_pos (p := p) (by omega) (L + 6).toNat
  have hx0 := Int.emod_nonneg X (show p ^ (L + 6).toNat ≠ 0 by omega)
  have hx1 := Int.emod_lt_of_pos X (show 0 < p ^ (L + 6).toNat by omega)
  generalize (ofM p L X).2.1 = T at *
  generalize (ofM p L X).2.2 = D at *
  have hq := ipow_pos (p := p) (by omega) (6 - D).toNat
  rw [← hx] at hx0 hx1
  have hT0 : 0 ≤ T := by
    rcases Int.lt_or_le T 0 with h | h
    · have := Int.mul_neg_of_neg_of_pos h (show 0 < p ^ (6 - D).toNat by omega); omega
    · exact h
  unfold ballB
  rw [hp, decide_eq_true hL, decide_eq_true hD, Bool.true_and, Bool.true_and, Bool.true_and]
  by_cases hn : L + D ≤ 0
  · rw [if_pos hn]
    have hT : T = 0 := by
      rcases Int.lt_or_eq_of_le hT0 with h | h
      · exfalso
        have e : p ^ (6 - D).toNat = p ^ (L + 6).toNat * p ^ (-(L + D)).toNat := by rw [← Int.pow_add]; congr 1; omega
        have h2 := ipow_pos (p := p) (by omega) (-(L + D)).toNat
        have h3 : p ^ (L + 6).toNat * 1 ≤ p ^ (L + 6).toNat * p ^ (-(L + D)).toNat := Int.mul_le_mul_of_nonneg_left (by omega) (by omega)
        have h4 : 1 * p ^ (6 - D).toNat ≤ T * p ^ (6 - D).toNat := Int.mul_le_mul_of_nonneg_right (by omega) (by omega)
        omega
      · exact h.symm
    have hD0 : D = 0 := by
      rcases hu with h | h
      · exact h
      · exact absurd (by rw [hT]; exact Int.dvd_zero p) h
    simp [hT, hD0]
  · rw [if_neg hn]
    have hlt : T < p ^ (L + D).toNat := by
      have e : p ^ (L + 6).toNat = p ^ (L + D).toNat * p ^ (6 - D).toNat := by rw [← Int.pow_add]; congr 1; omega
      rw [e] at hx1
      exact Int.lt_of_mul_lt_mul_right hx1 (by omega)
    rw [decide_eq_true (show 0 ≤ T ∧ T < p ^ (L + D).toNat from ⟨hT0, hlt⟩), Bool.true_and]
    rcases hu with h | h
    · simp [h]
    · have : (Int.tmod T p == 0) = false := beq_eq_false_iff_ne.2 (fun e => h (Int.dvd_of_tmod_eq_zero e))
      simp [this]
theorem ball_num {p L T D : Int} (h : ballB p L T D = true) : 0 ≤ T ∧ T ≤ 13841287201 := by
  obtain ⟨hp, hL, hD, h0, h1⟩ := ball_parts h
  have hp2 := prime_lo hp
  by_cases hn : L + D ≤ 0
  · rw [(h0 hn).1]; omega
  · have := (h1 (by omega)).1
    have := pow_13 hp (L + D).toNat (by omega)
    omega

theorem impl_power_l (p N : Int) (hN : N ≤ 9223372036854775807) (n : Nat) : ∀ (acc i : Int), 0 ≤ i → (i + n = N ∨ (n = 0 ∧ N ≤ i)) → Ev (fun k => impl_power.l0 k p acc N i) (powW p n acc) := by
  induction n with
  | zero =>
    intro acc i hi hx
    exact Ev.step (f := fun _ => some acc) (fun k => by simp only [impl_power.l0]; rw [if_neg (by omega)]) (Ev.now _)
  | succ n ih =>
    intro acc i hi hx
    exact Ev.step (f := fun k => impl_power.l0 k p (wrap64 (acc * p)) N (i + 1)) (fun k => by
      simp only [impl_power.l0]; rw [if_pos (by omega), show wrap64 (i + 1) = i + 1 from wid (by omega) (by omega)]) (ih _ (i + 1) (by omega) (by omega))
theorem impl_power_ev (p x : Int) (h : x ≤ 9223372036854775807) : Ev (fun k => impl_power.f k p x) (powW p x.toNat 1) := by
  refine Ev.congr (f := fun k => impl_power.l0 k p 1 x 0) (fun k => rfl) (impl_power_l p x h x.toNat 1 0 (by omega) (by omega))

theorem impl_mark_ev {p L T D : Int} (h : ballB p L T D = true) : Ev (fun k => impl_mark.f k p L T D) (markOf p T D) := by
  obtain ⟨hp, hL, hD, _, _⟩ := ball_parts h
  have hp2 := prime_lo hp
  obtain ⟨m0, m1⟩ := mark_lt h
  have m2 := pow_13 hp (L + 6).toNat (by omega)
  unfold impl_mark.f
  rw [wid (n := 6 - D) (by omega) (by omega)]
  refine Ev.bind (impl_power_ev p _ (by omega)) ?_
  rw [powW_prime hp _ (by omega), show T * p ^ (6 - D).toNat = markOf p T D from rfl, wid (by omega) (by omega)]
  exact Ev.now _

theorem impl_valuation_l (p : Int) (hp : 2 ≤ p) (v : Nat) : ∀ (n u acc : Int), n = p ^ v * u → ¬ p ∣ u → n ≠ 0 → -4611686018427387904 ≤ n → n ≤ 4611686018427387904 → 0 ≤ acc → acc + v ≤ 4611686018427387904 → Ev (fun k => impl_valuation.l0 k p n acc) (acc + v) := by
  induction v with
  | zero =>
    intro n u acc h hu h0 h1 h2 h3 h4
    refine Ev.step (f := fun _ => some acc) (fun k => ?_) (by simp; exact Ev.now _)
    simp only [impl_valuation.l0]
    rw [if_neg (by omega), if_neg]
    intro e
    rw [h] at e
    exact hu (by simpa using Int.dvd_of_tmod_eq_zero e)
  | succ v ih =>
    intro n u acc h hu h0 h1 h2 h3 h4
    have hn : n = p * (p ^ v * u) := by rw [h, Int.pow_succ', Int.mul_assoc]
    have hm : Int.tmod n p = 0 := by rw [hn]; exact Int.mul_tmod_right p _
    have hd : Int.tdiv n p = p ^ v * u := by rw [hn]; exact Int.mul_tdiv_cancel_left _ (by omega)
    have hb := tdiv_bdv p (show -4611686018427387904 ≤ n ∧ n ≤ 4611686018427387904 from ⟨h1, h2⟩)
    have hne : p ^ v * u ≠ 0 := by intro e; rw [e] at hn; simp at hn; exact h0 hn
    refine Ev.step (f := fun k => impl_valuation.l0 k p (p ^ v * u) (acc + 1)) (fun k => ?_) ?_
    · simp only [impl_valuation.l0]
      rw [if_neg (by omega), if_pos hm, hd]
      rw [hd] at hb
      rw [wid (n := p ^ v * u) (by omega) (by omega), wid (n := acc + 1) (by omega) (by omega)]
    · rw [hd] at hb
      have := ih (p ^ v * u) u (acc + 1) rfl hu hne hb.1 hb.2 (by omega) (by omega)
      rw [show acc + ((v + 1 : Nat) : Int) = acc + 1 + (v : Int) from by omega]
      exact this
def valW (p n : Int) : Int := if n = 0 then 1000 else val p n
theorem impl_valuation_ev {p n : Int} (hp : 2 ≤ p) (h1 : -4611686018427387904 ≤ n) (h2 : n ≤ 4611686018427387904) : Ev (fun k => impl_valuation.f k p n) (valW p n) := by
  unfold impl_valuation.f valW
  by_cases h0 : n = 0
  · simp only [if_pos h0]; exact Ev.now _
  · simp only [if_neg h0]
    obtain ⟨u, h, hu⟩ := val_spec hp h0
    have hv := val_le_of_lt hp h0 63 (by omega)
    have := impl_valuation_l p hp (val p n) n u 0 h hu h0 h1 h2 (by omega) (by omega)
    rw [Int.zero_add] at this
    exact this

theorem spec_l01Val_l (p : Int) (hp : 2 ≤ p) (v : Nat) : ∀ (n u acc : Int), n = p ^ v * u → ¬ p ∣ u → n ≠ 0 → -4611686018427387904 ≤ n → n ≤ 4611686018427387904 → 0 ≤ acc → acc + v ≤ 4611686018427387904 → Ev (fun k => spec_l01Val.l0 k p n acc) (acc + v) := by
  induction v with
  | zero =>
    intro n u acc h hu h0 h1 h2 h3 h4
    refine Ev.step (f := fun _ => some acc) (fun k => ?_) (by simp; exact Ev.now _)
    simp only [spec_l01Val.l0]
    rw [if_neg (by omega), if_neg]
    intro e
    rw [h] at e
    exact hu (by simpa using Int.dvd_of_tmod_eq_zero e)
  | succ v ih =>
    intro n u acc h hu h0 h1 h2 h3 h4
    have hn : n = p * (p ^ v * u) := by rw [h, Int.pow_succ', Int.mul_assoc]
    have hm : Int.tmod n p = 0 := by rw [hn]; exact Int.mul_tmod_right p _
    have hd : Int.tdiv n p = p ^ v * u := by rw [hn]; exact Int.mul_tdiv_cancel_left _ (by omega)
    have hb := tdiv_bdv p (show -4611686018427387904 ≤ n ∧ n ≤ 4611686018427387904 from ⟨h1, h2⟩)
    have hne : p ^ v * u ≠ 0 := by intro e; rw [e] at hn; simp at hn; exact h0 hn
    refine Ev.step (f := fun k => spec_l01Val.l0 k p (p ^ v * u) (acc + 1)) (fun k => ?_) ?_
    · simp only [spec_l01Val.l0]
      rw [if_neg (by omega), if_pos hm, hd]
      rw [hd] at hb
      rw [wid (n := p ^ v * u) (by omega) (by omega), wid (n := acc + 1) (by omega) (by omega)]
    · rw [hd] at hb
      have := ih (p ^ v * u) u (acc + 1) rfl hu hne hb.1 hb.2 (by omega) (by omega)
      rw [show acc + ((v + 1 : Nat) : Int) = acc + 1 + (v : Int) from by omega]
      exact this
theorem spec_l01Val_ev {p n : Int} (hp : 2 ≤ p) (h0 : n ≠ 0) (h1 : -4611686018427387904 ≤ n) (h2 : n ≤ 4611686018427387904) : Ev (fun k => spec_l01Val.f k p n) (val p n : Int) := by
  obtain ⟨u, h, hu⟩ := val_spec hp h0
  have hv := val_le_of_lt hp h0 63 (by omega)
  have := spec_l01Val_l p hp (val p n) n u 0 h hu h0 h1 h2 (by omega) (by omega)
  rw [Int.zero_add] at this
  unfold spec_l01Val.f
  exact this

theorem spec_l01Power_l (p : Int) (n : Nat) : ∀ (x acc : Int), (n : Int) ≤ 9223372036854775807 → (x = n ∨ (n = 0 ∧ x ≤ 0)) → Ev (fun k => spec_l01Power.l0 k p x acc) (powW p n acc) := by
  induction n with
  | zero =>
    intro x acc _ hx
    exact Ev.step (f := fun _ => some acc) (fun k => by simp only [spec_l01Power.l0]; rw [if_neg (by omega)]) (Ev.now _)
  | succ n ih =>
    intro x acc hn hx
    have hx' : x = n + 1 := by omega
    exact Ev.step (f := fun k => spec_l01Power.l0 k p n (wrap64 (acc * p))) (fun k => by
      simp only [spec_l01Power.l0]; rw [if_pos (by omega), show wrap64 (x - 1) = (n : Int) from by rw [hx', wid (by omega) (by omega)]; omega]) (ih n _ (by omega) (.inl rfl))
theorem spec_l01Power_ev (p x : Int) (h : x ≤ 9223372036854775807) : Ev (fun k => spec_l01Power.f k p x) (powW p x.toNat 1) := by
  refine Ev.congr (f := fun k => spec_l01Power.l0 k p x 1) (fun k => rfl) (spec_l01Power_l p x.toNat x 1 (by omega) (by omega))

theorem impl_isLevel_eq (L : Int) : impl_isLevel.f L = some (decide (-6 ≤ L ∧ L ≤ 6)) := by
  unfold impl_isLevel.f
  by_cases h : L ≥ -6
  · rw [if_pos h]; congr 1; exact decide_eq_decide.2 ⟨fun h2 => ⟨h, h2⟩, fun h2 => h2.2⟩
  · rw [if_neg h]; congr 1; exact (decide_eq_false (fun h2 => h h2.1)).symm

theorem tmod_cast {a m : Int} (h : 0 ≤ a) : Int.tmod a m = a % m := Int.tmod_eq_emod_of_nonneg h
theorem tdiv_cast {a m : Int} (h : 0 ≤ a) : Int.tdiv a m = a / m := Int.tdiv_eq_ediv_of_nonneg h
theorem tmod_lt' {a m : Int} (hm : 0 < m) : -m < Int.tmod a m ∧ Int.tmod a m < m := by
  have h1 := Int.natAbs_tmod a m
  have h2 := Nat.mod_lt a.natAbs (show 0 < m.natAbs by omega)
  omega
theorem emod_mul_emod' (a b m : Int) : a % m * b % m = a * b % m := by rw [Int.mul_emod (a % m) b m, Int.emod_emod, ← Int.mul_emod]
theorem modW {a m : Int} (hm : 1 ≤ m) (hm2 : m ≤ 2305843009213693952) : Int.tmod (wrap64 (Int.tmod a m + m)) m = a % m := by
  obtain ⟨h1, h2⟩ := tmod_lt' (a := a) (show 0 < m by omega)
  rw [wid (by omega) (by omega), tmod_cast (by omega), Int.add_emod_right]
  have e := Int.tmod_add_mul_tdiv a m
  conv => rhs; rw [← e, Int.add_mul_emod_self_left]

theorem impl_mod_eq {a m : Int} (hm : 1 ≤ m) (hm2 : m ≤ 2305843009213693952) : impl_mod.f a m = some (a % m) := by
  unfold impl_mod.f
  rw [if_neg (by omega), modW hm hm2]
theorem impl_ofMark_ev {p L x : Int} (hp : primeB p = true) (hL : -6 ≤ L ∧ L ≤ 6) : Ev (fun k => impl_ofMark.f k p L x) ((ofM p L x).1, (ofM p L x).2.1, (ofM p L x).2.2, true) := by
  have hp2 := prime_lo hp
  unfold impl_ofMark.f
  refine Ev.bindv (impl_isLevel_eq L) ?_
  rw [decide_eq_true hL]
  simp only [if_true]
  rw [wid (n := L + 6) (by omega) (by omega)]
  refine Ev.bind (impl_power_ev p (L + 6) (by omega)) ?_
  rw [powW_prime hp _ (by omega)]
  have m1 := ipow_pos (p := p) (by omega) (L + 6).toNat
  have m2 := pow_13 hp (L + 6).toNat (by omega)
  refine Ev.bindv (impl_mod_eq m1 (by omega)) ?_
  have x0 := Int.emod_nonneg x (show p ^ (L + 6).toNat ≠ 0 by omega)
  have x1 := Int.emod_lt_of_pos x (show 0 < p ^ (L + 6).toNat by omega)
  refine Ev.bind (impl_valuation_ev hp2 (by omega) (by omega)) ?_
  have hv : valW p (x % p ^ (L + 6).toNat) ≤ 1000 ∧ 0 ≤ valW p (x % p ^ (L + 6).toNat) := by
    unfold valW
    split
    · omega
    · rename_i h0
      have := val_le_of_lt hp2 h0 62 (by omega)
      omega
  have hdn : mx (wrap64 (6 - valW p (x % p ^ (L + 6).toNat))) 0 = (ofM p L x).2.2 := by
    rw [wid (n := 6 - valW p (x % p ^ (L + 6).toNat)) (by omega) (by omega)]
    unfold ofM valW mx
    simp only
    by_cases h0 : x % p ^ (L + 6).toNat = 0
    · rw [if_pos h0, if_pos h0]; rfl
    · rw [if_neg h0, if_neg h0]
      by_cases h6 : ((val p (x % p ^ (L + 6).toNat) : Nat) : Int) < 6
      · rw [if_neg (by omega), if_pos h6]
      · rw [if_neg h6]; split <;> omega
  rw [hdn]
  obtain ⟨_, hD, _⟩ := ofM_back (p := p) (L := L) (X := x) hp2
  rw [wid (n := 6 - (ofM p L x).2.2) (by omega) (by omega)]
  refine Ev.bind (impl_power_ev p _ (by omega)) ?_
  rw [powW_prime hp _ (by omega)]
  have q1 := ipow_pos (p := p) (by omega) (6 - (ofM p L x).2.2).toNat
  simp only [if_neg (show ¬ p ^ (6 - (ofM p L x).2.2).toNat = 0 by omega)]
  rw [tdiv_cast x0]
  have hT : x % p ^ (L + 6).toNat / p ^ (6 - (ofM p L x).2.2).toNat = (ofM p L x).2.1 := rfl
  have d0 := Int.ediv_nonneg x0 (show 0 ≤ p ^ (6 - (ofM p L x).2.2).toNat by omega)
  have d1 := Int.ediv_le_self (p ^ (6 - (ofM p L x).2.2).toNat) x0
  rw [wid (n := x % p ^ (L + 6).toNat / p ^ (6 - (ofM p L x).2.2).toNat) (by omega) (by omega), hT]
  exact Ev.now _
theorem impl_ofMark_out {p L x : Int} (hL : ¬ (-6 ≤ L ∧ L ≤ 6)) : Ev (fun k => impl_ofMark.f k p L x) (0, 0, 0, false) := by
  unfold impl_ofMark.f
  refine Ev.bindv (impl_isLevel_eq L) ?_
  rw [decide_eq_false hL]
  simp only [Bool.false_eq_true, if_false]
  exact Ev.now _

theorem spec_l01MulMod_eq {a b m : Int} (hm : 1 ≤ m) (hm2 : m ≤ 100000000000) : spec_l01MulMod.f a b m = some (a * b % m) := by
  unfold spec_l01MulMod.f
  rw [if_neg (by omega), modW hm (by omega), modW hm (by omega)]
  have a0 := Int.emod_nonneg a (show m ≠ 0 by omega)
  have a1 := Int.emod_lt_of_pos a (show 0 < m by omega)
  have b0 := Int.emod_nonneg b (show m ≠ 0 by omega)
  have b1 := Int.emod_lt_of_pos b (show 0 < m by omega)
  have hab : a * b % m = (a % m) * (b % m) % m := Int.mul_emod a b m
  rw [hab]
  generalize a % m = x at *
  generalize b % m = y at *
  rw [tdiv_cast b0, tmod_cast b0]
  have q0 : 0 ≤ y / 1000000 := by omega
  have q1 : y / 1000000 ≤ 100000 := by omega
  have r0 : 0 ≤ y % 1000000 := by omega
  have r1 : y % 1000000 ≤ 1000000 := by omega
  have p0 : 0 ≤ x * (y / 1000000) := Int.mul_nonneg a0 q0
  have p1 : x * (y / 1000000) ≤ 100000000000 * 100000 := Int.mul_le_mul (by omega) q1 q0 (by omega)
  have s0 : 0 ≤ x * (y % 1000000) := Int.mul_nonneg a0 r0
  have s1 : x * (y % 1000000) ≤ 100000000000 * 1000000 := Int.mul_le_mul (by omega) r1 r0 (by omega)
  rw [wid (n := y / 1000000) (by omega) (by omega), wid (n := x * (y / 1000000)) (by omega) (by omega), wid (n := x * (y % 1000000)) (by omega) (by omega), tmod_cast p0, tmod_cast s0]
  have t0 := Int.emod_nonneg (x * (y / 1000000)) (show m ≠ 0 by omega)
  have t1 := Int.emod_lt_of_pos (x * (y / 1000000)) (show 0 < m by omega)
  rw [wid (n := x * (y / 1000000) % m * 1000000) (by omega) (by omega), tmod_cast (a := x * (y / 1000000) % m * 1000000) (by omega)]
  have u0 := Int.emod_nonneg (x * (y / 1000000) % m * 1000000) (show m ≠ 0 by omega)
  have u1 := Int.emod_lt_of_pos (x * (y / 1000000) % m * 1000000) (show 0 < m by omega)
  have v0 := Int.emod_nonneg (x * (y % 1000000)) (show m ≠ 0 by omega)
  have v1 := Int.emod_lt_of_pos (x * (y % 1000000)) (show 0 < m by omega)
  rw [wid (n := x * (y / 1000000) % m * 1000000 % m + x * (y % 1000000) % m) (by omega) (by omega), tmod_cast (a := x * (y / 1000000) % m * 1000000 % m + x * (y % 1000000) % m) (by omega)]
  congr 1
  have e1 : x * (y / 1000000) % m * 1000000 % m = x * (y / 1000000) * 1000000 % m := by rw [emod_mul_emod']
  rw [e1, ← Int.add_emod]
  congr 1
  rw [Int.mul_assoc, ← Int.mul_add]
  congr 1
  omega

theorem spec_l01InvMod_one {m : Int} (hm : 2 ≤ m) (hm2 : m ≤ 100000000000) : Ev (fun k => spec_l01InvMod.f k 1 m) 1 := by
  have h1 : Int.tmod (wrap64 (Int.tmod 1 m + m)) m = 1 := by rw [modW (by omega) (by omega)]; exact Int.emod_eq_of_lt (by omega) (by omega)
  refine Ev.congr (f := fun k => spec_l01InvMod.l0 k m 1 m 1 0) (fun k => by unfold spec_l01InvMod.f; rw [if_neg (by omega), h1]) ?_
  have q0 : Int.tdiv 1 m = 0 := by rw [tdiv_cast (by omega)]; exact Int.ediv_eq_zero_of_lt (by omega) (by omega)
  have q1 : Int.tdiv m 1 = m := Int.tdiv_one m
  have z0 : wrap64 0 = 0 := wid (by omega) (by omega)
  have z1 : wrap64 1 = 1 := wid (by omega) (by omega)
  refine Ev.step (f := fun k => spec_l01InvMod.l0 k m m 1 0 1) (fun k => ?_) ?_
  · simp only [spec_l01InvMod.l0]
    rw [if_neg (by omega), q0, z0, Int.zero_mul, z0, Int.sub_zero, z1, Int.mul_zero, z0, Int.sub_zero, z1]
  refine Ev.step (f := fun k => spec_l01InvMod.l0 k m 1 0 1 (-m)) (fun k => ?_) ?_
  · simp only [spec_l01InvMod.l0]
    rw [if_neg (by omega), q1, wid (n := m) (by omega) (by omega), Int.mul_one, wid (n := m) (by omega) (by omega), Int.sub_self, z0, Int.zero_sub, wid (n := -m) (by omega) (by omega)]
  refine Ev.step (f := fun _ => some 1) (fun k => ?_) (Ev.now _)
  simp only [spec_l01InvMod.l0]
  rw [if_pos trivial, if_neg (by omega), h1]

theorem In_eq (a b c : Int) : spec_l01In.f a b c = some (decide (b ≤ a ∧ a ≤ c)) := by
  unfold spec_l01In.f
  by_cases h : a ≥ b
  · rw [if_pos h]; congr 1; exact decide_eq_decide.2 ⟨fun h2 => ⟨h, h2⟩, fun h2 => h2.2⟩
  · rw [if_neg h]; congr 1; exact (decide_eq_false (fun h2 => h h2.1)).symm

theorem mx_eq (a b : Int) : mx a b = if a < b then b else a := rfl
theorem spec_l01Of_pow {p num L : Int} (D : Nat) (hp : primeB p = true) (hD : D ≤ 6) (h1 : -1152921504606846976 ≤ num) (h2 : num ≤ 1152921504606846976) (hL : -6 ≤ L ∧ L ≤ 6) :
    Ev (fun k => spec_l01Of.f k p num (p ^ D) L) ((ofM p L (num * p ^ (6 - D))).1, (ofM p L (num * p ^ (6 - D))).2.1, (ofM p L (num * p ^ (6 - D))).2.2, true) := by
  have hp2 := prime_lo hp
  have hpow : ∀ j : Nat, p ^ j ≠ 0 := fun j => Int.pow_ne_zero (by omega)
  have hpD := pow_13 hp D (by omega)
  have hpD1 := ipow_pos (p := p) (by omega) D
  unfold spec_l01Of.f
  refine Ev.bindv (In_eq _ _ _) ?_
  rw [decide_eq_true hL]
  simp only [if_true]
  by_cases h0 : num = 0
  · simp only [if_pos h0]
    have e : ofM p L (num * p ^ (6 - D)) = (L, 0, 0) := by
      rw [h0, Int.zero_mul]; exact ofM_of hp2 (by simp) (by omega) (.inl rfl)
    rw [e]; exact Ev.now _
  simp only [if_neg h0]
  have hvD : val p (p ^ D) = D := val_eq hp2 (u := 1) (by simp) (fun h => by have := Int.le_of_dvd (by omega) h; omega)
  have hv60 := val_le_of_lt hp2 h0 61 (by omega)
  refine Ev.bind (spec_l01Val_ev hp2 h0 (by omega) (by omega)) (Ev.bind (spec_l01Val_ev hp2 (hpow D) (by omega) (by omega)) ?_)
  rw [hvD]
  obtain ⟨u, hu, hn⟩ := val_spec hp2 h0
  generalize hv : val p num = v at *
  rw [wid (n := (v : Int) - (D : Int)) (by omega) (by omega), wid (n := (D : Int) - (v : Int)) (by omega) (by omega)]
  have hX : num * p ^ (6 - D) = p ^ (v + (6 - D)) * u := by
    rw [hu, Int.pow_add, Int.mul_assoc, Int.mul_assoc, Int.mul_comm u]
  by_cases hle : L ≤ (v : Int) - (D : Int)
  · simp only [if_pos hle]
    have e : ofM p L (num * p ^ (6 - D)) = (L, 0, 0) := by
      refine ofM_of hp2 ?_ (by omega) (.inl rfl)
      rw [hX, Int.zero_mul, show v + (6 - D) = (L + 6).toNat + (v + (6 - D) - (L + 6).toNat) from by omega, Int.pow_add, Int.mul_assoc]
      exact Int.mul_emod_right _ _
    rw [e]; exact Ev.now _
  simp only [if_neg hle]
  obtain ⟨dn, hdn⟩ : ∃ dn : Nat, (dn : Int) = mx ((D : Int) - (v : Int)) 0 := ⟨D - v, by rw [mx_eq]; split <;> omega⟩
  have hdn2 : (dn : Int) = if (D : Int) - v < 0 then 0 else (D : Int) - v := by rw [hdn, mx_eq]
  rw [← hdn]
  have hdn6 : dn ≤ D := by split at hdn2 <;> omega
  have hmp : 1 ≤ L + dn := by split at hdn2 <;> omega
  have hmp2 : (L + dn).toNat ≤ 12 := by omega
  simp only [if_neg (show ¬ (dn : Int) > 6 by omega)]
  rw [wid (n := L + (dn : Int)) (by omega) (by omega)]
  refine Ev.bind (spec_l01Power_ev p (L + dn) (by omega)) ?_
  rw [powW_prime hp _ (by omega)]
  have hu0 : u ≠ 0 := by intro e; rw [e] at hn; exact hn (Int.dvd_zero p)
  have hpv1 := ipow_pos (p := p) (by omega) v
  have hpv : p ^ v ≤ 1152921504606846976 := by
    have : num.natAbs = (p ^ v).natAbs * u.natAbs := by rw [← Int.natAbs_mul, ← hu]
    have h3 : (p ^ v).natAbs * 1 ≤ (p ^ v).natAbs * u.natAbs := Nat.mul_le_mul_left _ (by omega)
    omega
  have hub : -1152921504606846976 ≤ u ∧ u ≤ 1152921504606846976 := by
    have : num.natAbs = (p ^ v).natAbs * u.natAbs := by rw [← Int.natAbs_mul, ← hu]
    have h3 : 1 * u.natAbs ≤ (p ^ v).natAbs * u.natAbs := Nat.mul_le_mul_right _ (by omega)
    omega
  have pv : powW p v 1 = p ^ v := by rw [powW_fit p (by omega) v 1 (by omega) (by omega), Int.one_mul]
  refine Ev.bind (spec_l01Power_ev p v (by omega)) ?_
  rw [Int.toNat_natCast, pv]
  simp only [if_neg (hpow v)]
  refine Ev.bind (spec_l01Power_ev p D (by omega)) ?_
  rw [Int.toNat_natCast, powW_prime hp D (by omega)]
  simp only [if_neg (hpow D)]
  rw [Int.tdiv_self (hpow D), show wrap64 1 = 1 from wid (by omega) (by omega)]
  have hm1 : p ^ (L + (dn : Int)).toNat ≤ 13841287201 := pow_13 hp _ hmp2
  have hm0 : 2 ≤ p ^ (L + (dn : Int)).toNat := by
    have := ipow_mono (p := p) (by omega) (show 1 ≤ (L + (dn : Int)).toNat by omega)
    rw [Int.pow_one] at this; omega
  refine Ev.bind (spec_l01InvMod_one hm0 (by omega)) ?_
  have hq : Int.tdiv num (p ^ v) = u := by
    conv => lhs; lhs; rw [hu]
    exact Int.mul_tdiv_cancel_left _ (hpow v)
  rw [hq, wid (n := u) (by omega) (by omega)]
  refine Ev.bindv (spec_l01MulMod_eq (by omega) (by omega)) ?_
  rw [Int.mul_one]
  obtain ⟨e, he⟩ : ∃ e : Nat, (e : Int) = mx ((v : Int) - (D : Int)) 0 := ⟨v - D, by rw [mx_eq]; split <;> omega⟩
  have he2 : (e : Int) = if (v : Int) - D < 0 then 0 else (v : Int) - D := by rw [he, mx_eq]
  rw [← he]
  have hev : e ≤ v := by split at he2 <;> omega
  have hpe : p ^ e ≤ p ^ v := ipow_mono (by omega) hev
  refine Ev.bind (spec_l01Power_ev p e (by omega)) ?_
  rw [Int.toNat_natCast, powW_fit p (by omega) e 1 (by omega) (by omega), Int.one_mul]
  refine Ev.bindv (spec_l01MulMod_eq (by omega) (by omega)) ?_
  have hT : u % p ^ (L + (dn : Int)).toNat * p ^ e % p ^ (L + (dn : Int)).toNat = u * p ^ e % p ^ (L + (dn : Int)).toNat := by rw [emod_mul_emod']
  rw [hT]
  have hexp : v + (6 - D) = (6 - (dn : Int)).toNat + e := by split at hdn2 <;> split at he2 <;> omega
  have hexp2 : (L + 6).toNat = (6 - (dn : Int)).toNat + (L + (dn : Int)).toNat := by omega
  have key : ofM p L (num * p ^ (6 - D)) = (L, u * p ^ e % p ^ (L + (dn : Int)).toNat, (dn : Int)) := by
    refine ofM_of hp2 ?_ (by omega) ?_
    · rw [hX, hexp, hexp2, Int.pow_add, Int.pow_add, Int.mul_assoc, Int.mul_emod_mul_of_pos _ _ (Int.lt_of_lt_of_le (by omega) (ipow_pos (p := p) (by omega) _)), Int.mul_comm (p ^ e) u, Int.mul_comm]
    · by_cases hz : dn = 0
      · left; omega
      · right
        have e0 : e = 0 := by split at hdn2 <;> split at he2 <;> omega
        rw [e0, Int.pow_zero, Int.mul_one]
        intro hd
        apply hn
        have hpm : p ∣ p ^ (L + (dn : Int)).toNat := by
          obtain ⟨j, hj⟩ : ∃ j, (L + (dn : Int)).toNat = j + 1 := ⟨(L + (dn : Int)).toNat - 1, by omega⟩
          rw [hj, Int.pow_succ']; exact Int.dvd_mul_right _ _
        have := Int.dvd_add hd (Int.dvd_trans hpm (Int.dvd_mul_right (p ^ (L + (dn : Int)).toNat) (u / p ^ (L + (dn : Int)).toNat)))
        rwa [Int.emod_add_mul_ediv] at this
  rw [key]
  exact Ev.now _
theorem spec_l01Of_out {p num den L : Int} (hL : ¬ (-6 ≤ L ∧ L ≤ 6)) : Ev (fun k => spec_l01Of.f k p num den L) (0, 0, 0, false) := by
  unfold spec_l01Of.f
  refine Ev.bindv (In_eq _ _ _) ?_
  rw [decide_eq_false hL]
  simp only [Bool.false_eq_true, if_false]
  exact Ev.now _

theorem all_ev {β : Type} (g : Nat → Int → Option β) (n : Nat) (p : Nat → Bool) (yes no : β)
    (hstep : ∀ (i : Nat), i < n → p i = true → Ev (fun k => g k ((i : Int) + 1)) yes → Ev (fun k => g k i) yes)
    (hstepno : ∀ (i : Nat), i < n → p i = true → Ev (fun k => g k ((i : Int) + 1)) no → Ev (fun k => g k i) no)
    (hno : ∀ (i : Nat), i < n → p i = false → Ev (fun k => g k i) no)
    (hend : Ev (fun k => g k n) yes) : Ev (fun k => g k 0) (if (List.range n).all p then yes else no) := by
  have key : ∀ (d i : Nat), i + d = n → Ev (fun k => g k i) (if (List.range' i d).all p then yes else no) := by
    intro d
    induction d with
    | zero => intro i hi; have : i = n := by omega
              subst this; simpa using hend
    | succ d ih =>
      intro i hi
      have h := ih (i + 1) (by omega)
      rw [List.range'_succ, List.all_cons]
      cases e : p i with
      | false => simpa using hno i (by omega) e
      | true =>
        rw [Bool.true_and]
        have e1 : (((i + 1 : Nat) : Int)) = (i : Int) + 1 := by omega
        rw [e1] at h
        cases e2 : (List.range' (i + 1) d).all p with
        | true => rw [e2] at h; exact hstep i (by omega) e h
        | false => rw [e2] at h; exact hstepno i (by omega) e h
  have := key n 0 (by omega)
  rw [← List.range_eq_range'] at this
  exact this
theorem all_range_getD {α : Type} (l : List α) (d : α) (q : α → Bool) : (List.range l.length).all (fun i => q (l.getD i d)) = l.all q := by
  rw [Bool.eq_iff_iff]
  simp only [List.all_eq_true, List.mem_range]
  constructor
  · intro h x hx
    obtain ⟨i, hi, rfl⟩ := List.mem_iff_getElem.1 hx
    have := h i hi
    rwa [List.getD_eq_getElem?_getD, List.getElem?_eq_getElem hi] at this
  · intro h i hi
    rw [List.getD_eq_getElem?_getD, List.getElem?_eq_getElem hi]
    exact h _ (List.getElem_mem hi)
theorem all_ev' {β : Type} (g : Nat → Int → Option β) (n : Nat) (p : Nat → Bool) (yes no : β)
    (hstep : ∀ (i : Nat) (r : β), i < n → p i = true → Ev (fun k => g k ((i : Int) + 1)) r → Ev (fun k => g k i) r)
    (hno : ∀ (i : Nat), i < n → p i = false → Ev (fun k => g k i) no)
    (hend : Ev (fun k => g k n) yes) : Ev (fun k => g k 0) (if (List.range n).all p then yes else no) :=
  all_ev g n p yes no (fun i hi hp h => hstep i yes hi hp h) (fun i hi hp h => hstep i no hi hp h) hno hend
theorem ite_tf (b : Bool) : (if b then true else false) = b := by cases b <;> rfl
theorem bt_lo (s : ByteArray) (i : Int) : 0 ≤ bt s i := by unfold bt; split <;> omega
theorem bt_hi (s : ByteArray) (i : Int) : bt s i ≤ 255 := by
  unfold bt; split
  · rename_i h; have := (s[i.toNat]'h).toNat_lt; omega
  · omega
def stepB (p c : Int) : Bool := c == 117 || decide (48 ≤ c ∧ c - 48 < p)
def stepsB (p : Int) (s : ByteArray) : Bool := decide (s.size ≤ 40) && (List.range s.size).all (fun i => stepB p (bt s i))

def parM (p L T D : Int) : Int × Int × Int := ofM p (L - 1) (markOf p T D)
def chM (p L T D c : Int) : Int × Int × Int := ofM p (L + 1) (markOf p T D + c * p ^ (L + 6).toNat)
def parW (p L T D : Int) : Int × Int × Int × Bool := if L = -6 then (0, 0, 0, false) else ((parM p L T D).1, (parM p L T D).2.1, (parM p L T D).2.2, true)
def chW (p L T D c : Int) : Int × Int × Int × Bool := if L = 6 then (0, 0, 0, false) else ((chM p L T D c).1, (chM p L T D c).2.1, (chM p L T D c).2.2, true)
theorem parM_ball {p L T D : Int} (h : ballB p L T D = true) (hL : L ≠ -6) : ballB p (parM p L T D).1 (parM p L T D).2.1 (parM p L T D).2.2 = true := by
  obtain ⟨hp, h1, _⟩ := ball_parts h
  exact ofM_ball (L := L - 1) hp (by omega)
theorem chM_ball {p L T D : Int} (c : Int) (h : ballB p L T D = true) (hL : L ≠ 6) : ballB p (chM p L T D c).1 (chM p L T D c).2.1 (chM p L T D c).2.2 = true := by
  obtain ⟨hp, h1, _⟩ := ball_parts h
  exact ofM_ball (L := L + 1) hp (by omega)
theorem mul_bdc {x y M N : Int} (hx : -M ≤ x ∧ x ≤ M) (hy : 1 ≤ y) (hy2 : y ≤ N) : -(M * N) ≤ x * y ∧ x * y ≤ M * N := by
  have h1 := Int.mul_nonneg (show 0 ≤ M - x by omega) (show 0 ≤ y by omega)
  have h2 := Int.mul_nonneg (show 0 ≤ M + x by omega) (show 0 ≤ y by omega)
  have h3 := Int.mul_nonneg (show 0 ≤ M by omega) (show 0 ≤ N - y by omega)
  simp only [Int.sub_mul, Int.mul_sub, Int.add_mul] at h1 h2 h3
  constructor <;> omega

theorem impl_parent_ev {p L T D : Int} (h : ballB p L T D = true) : Ev (fun k => impl_parent.f k p L T D) (parW p L T D) := by
  obtain ⟨hp, hL, _⟩ := ball_parts h
  unfold impl_parent.f parW
  refine Ev.bind (impl_mark_ev h) ?_
  rw [wid (n := L - 1) (by omega) (by omega)]
  by_cases h6 : L = -6
  · rw [if_pos h6]
    exact Ev.bind (impl_ofMark_out (by omega)) (Ev.now _)
  · rw [if_neg h6]
    exact Ev.bind (impl_ofMark_ev hp (by omega)) (Ev.now _)
theorem impl_child_ev {p L T D c : Int} (h : ballB p L T D = true) (hc : -1000 ≤ c ∧ c ≤ 1000) : Ev (fun k => impl_child.f k p L T D c) (chW p L T D c) := by
  obtain ⟨hp, hL, _⟩ := ball_parts h
  have hp2 := prime_lo hp
  obtain ⟨m0, m1⟩ := mark_lt h
  have q1 := ipow_pos (p := p) (by omega) (L + 6).toNat
  have q2 := pow_13 hp (L + 6).toNat (by omega)
  have a1 := mul_bdc hc q1 q2
  unfold impl_child.f chW
  refine Ev.bind (impl_mark_ev h) ?_
  rw [wid (n := L + 6) (by omega) (by omega)]
  refine Ev.bind (impl_power_ev p _ (by omega)) ?_
  rw [powW_prime hp _ (by omega), wid (n := L + 1) (by omega) (by omega), wid (n := c * p ^ (L + 6).toNat) (by omega) (by omega), wid (n := markOf p T D + c * p ^ (L + 6).toNat) (by omega) (by omega)]
  by_cases h6 : L = 6
  · rw [if_pos h6]
    exact Ev.bind (impl_ofMark_out (by omega)) (Ev.now _)
  · rw [if_neg h6]
    exact Ev.bind (impl_ofMark_ev hp (by omega)) (Ev.now _)
theorem impl_neighbour_ev {p L T D : Int} (c : Int) (h : ballB p L T D = true) (hc : 0 ≤ c ∧ c ≤ 1000) : Ev (fun k => impl_neighbour.f k p L T D c) (if c = 0 then parW p L T D else chW p L T D (c - 1)) := by
  unfold impl_neighbour.f
  by_cases h0 : c = 0
  · simp only [if_pos h0]; exact Ev.bind (impl_parent_ev h) (Ev.now _)
  · simp only [if_neg h0]
    rw [wid (n := c - 1) (by omega) (by omega)]
    exact Ev.bind (impl_child_ev h (by omega)) (Ev.now _)

theorem spec_l01Parent_ev {p L T D : Int} (h : ballB p L T D = true) : Ev (fun k => spec_l01Parent.f k p L T D) (parW p L T D) := by
  obtain ⟨hp, hL, hD, _⟩ := ball_parts h
  have hT := ball_num h
  unfold spec_l01Parent.f parW
  refine Ev.bind (spec_l01Power_ev p D (by omega)) ?_
  rw [powW_prime hp _ (by omega), wid (n := L - 1) (by omega) (by omega)]
  by_cases h6 : L = -6
  · rw [if_pos h6]
    exact Ev.bind (spec_l01Of_out (by omega)) (Ev.now _)
  · rw [if_neg h6]
    have := spec_l01Of_pow (num := T) (L := L - 1) D.toNat hp (by omega) (by omega) (by omega) (by omega)
    rw [show 6 - D.toNat = (6 - D).toNat from by omega] at this
    exact Ev.bind this (Ev.now _)
theorem spec_l01Child_ev {p L T D c : Int} (h : ballB p L T D = true) (hc : -1000 ≤ c ∧ c ≤ 1000) : Ev (fun k => spec_l01Child.f k p L T D c) (chW p L T D c) := by
  obtain ⟨hp, hL, hD, _⟩ := ball_parts h
  have hp2 := prime_lo hp
  have hT := ball_num h
  have pD := pow_13 hp D.toNat (by omega)
  have pD1 := ipow_pos (p := p) (by omega) D.toNat
  unfold spec_l01Child.f chW
  by_cases h6 : L = 6
  · simp only [if_pos h6]; exact Ev.now _
  simp only [if_neg h6]
  refine Ev.bind (spec_l01Power_ev p D (by omega)) ?_
  rw [powW_prime hp _ (by omega)]
  by_cases h0 : L ≥ 0
  · simp only [if_pos h0]
    refine Ev.bind (spec_l01Power_ev p L (by omega)) ?_
    rw [powW_prime hp _ (by omega)]
    have qL := pow_13 hp (L.toNat + D.toNat) (by omega)
    have qL1 := ipow_pos (p := p) (by omega) (L.toNat + D.toNat)
    have a1 := mul_bdc hc pD1 pD
    have a2 := mul_bdc hc qL1 qL
    have e1 : c * p ^ D.toNat * p ^ L.toNat = c * p ^ (L.toNat + D.toNat) := by rw [Int.mul_assoc, ← Int.pow_add, Nat.add_comm]
    rw [wid (n := c * p ^ D.toNat) (by omega) (by omega), e1, wid (n := c * p ^ (L.toNat + D.toNat)) (by omega) (by omega), wid (n := T + c * p ^ (L.toNat + D.toNat)) (by omega) (by omega), wid (n := L + 1) (by omega) (by omega)]
    have := spec_l01Of_pow (num := T + c * p ^ (L.toNat + D.toNat)) (L := L + 1) D.toNat hp (by omega) (by omega) (by omega) (by omega)
    rw [show (T + c * p ^ (L.toNat + D.toNat)) * p ^ (6 - D.toNat) = markOf p T D + c * p ^ (L + 6).toNat from by
      rw [Int.add_mul, Int.mul_assoc, ← Int.pow_add, show L.toNat + D.toNat + (6 - D.toNat) = (L + 6).toNat from by omega, show 6 - D.toNat = (6 - D).toNat from by omega]; rfl] at this
    exact Ev.bind this (Ev.now _)
  · simp only [if_neg h0]
    rw [wid (n := -L) (by omega) (by omega)]
    have pL := pow_13 hp (-L).toNat (by omega)
    have pL1 := ipow_pos (p := p) (by omega) (-L).toNat
    refine Ev.bind (spec_l01Power_ev p (-L) (by omega)) ?_
    rw [powW_prime hp _ (by omega)]
    simp only [if_neg (show ¬ p ^ D.toNat = 0 by omega), if_neg (show ¬ p ^ (-L).toNat = 0 by omega)]
    obtain ⟨E, hE, hE2, hE3, hE4⟩ : ∃ E : Nat, mx (p ^ D.toNat) (p ^ (-L).toNat) = p ^ E ∧ D.toNat ≤ E ∧ (-L).toNat ≤ E ∧ E ≤ 6 := by
      by_cases hc2 : D.toNat ≤ (-L).toNat
      · refine ⟨(-L).toNat, ?_, hc2, Nat.le_refl _, by omega⟩
        have := ipow_mono (p := p) (by omega) hc2
        rw [mx_eq]; split <;> omega
      · refine ⟨D.toNat, ?_, Nat.le_refl _, by omega, by omega⟩
        have := ipow_mono (p := p) (by omega) (show (-L).toNat ≤ D.toNat by omega)
        rw [mx_eq]; split <;> omega
    rw [hE]
    have hpow : ∀ j : Nat, p ^ j ≠ 0 := fun j => Int.pow_ne_zero (by omega)
    have d1 : Int.tdiv (p ^ E) (p ^ D.toNat) = p ^ (E - D.toNat) := by
      rw [show p ^ E = p ^ D.toNat * p ^ (E - D.toNat) from by rw [← Int.pow_add]; congr 1; omega]
      exact Int.mul_tdiv_cancel_left _ (hpow _)
    have d2 : Int.tdiv (p ^ E) (p ^ (-L).toNat) = p ^ (E - (-L).toNat) := by
      rw [show p ^ E = p ^ (-L).toNat * p ^ (E - (-L).toNat) from by rw [← Int.pow_add]; congr 1; omega]
      exact Int.mul_tdiv_cancel_left _ (hpow _)
    have b1 := pow_13 hp (E - D.toNat) (by omega)
    have b2 := ipow_pos (p := p) (by omega) (E - D.toNat)
    have b5 : p ^ (E - D.toNat) ≤ 117649 := by
      have h1 : p ^ (E - D.toNat) ≤ p ^ 6 := ipow_mono (by omega) (by omega)
      have h2 : p ^ 6 ≤ 117649 := by rcases prime_cases hp with rfl | rfl | rfl | rfl <;> decide
      omega
    have b3 := pow_13 hp (E - (-L).toNat) (by omega)
    have b4 := ipow_pos (p := p) (by omega) (E - (-L).toNat)
    rw [d1, d2, wid (n := p ^ (E - D.toNat)) (by omega) (by omega), wid (n := p ^ (E - (-L).toNat)) (by omega) (by omega)]
    have a1 : T * p ^ (E - D.toNat) ≤ 13841287201 * 117649 := Int.mul_le_mul hT.2 b5 (by omega) (by omega)
    have a0 : 0 ≤ T * p ^ (E - D.toNat) := Int.mul_nonneg hT.1 (by omega)
    have a2 := mul_bdc hc b4 b3
    rw [wid (n := T * p ^ (E - D.toNat)) (by omega) (by omega), wid (n := c * p ^ (E - (-L).toNat)) (by omega) (by omega), wid (n := T * p ^ (E - D.toNat) + c * p ^ (E - (-L).toNat)) (by omega) (by omega), wid (n := L + 1) (by omega) (by omega)]
    have := spec_l01Of_pow (num := T * p ^ (E - D.toNat) + c * p ^ (E - (-L).toNat)) (L := L + 1) E hp hE4 (by omega) (by omega) (by omega)
    rw [show (T * p ^ (E - D.toNat) + c * p ^ (E - (-L).toNat)) * p ^ (6 - E) = markOf p T D + c * p ^ (L + 6).toNat from by
      rw [Int.add_mul, Int.mul_assoc, Int.mul_assoc, ← Int.pow_add, ← Int.pow_add, show E - (-L).toNat + (6 - E) = (L + 6).toNat from by omega, show E - D.toNat + (6 - E) = (6 - D).toNat from by omega]; rfl] at this
    exact Ev.bind this (Ev.now _)

theorem Ev.up {α : Type} {g : Nat → Option α} {r : α} (h : Ev (fun k => g (k + 1)) r) : Ev g r := Ev.step (f := fun k => g (k + 1)) (fun _ => rfl) h

def upB (p X n : Int) : S39 := ⟨(ofM p n X).1, (ofM p n X).2.1, (ofM p n X).2.2⟩
theorem upB_ok {p X n : Int} (hp : primeB p = true) (hn : -6 ≤ n ∧ n ≤ 6) : ballB p n (ofM p n X).2.1 (ofM p n X).2.2 = true := ofM_ball hp hn
theorem upB_mark {p X n : Int} (hp : primeB p = true) : markOf p (ofM p n X).2.1 (ofM p n X).2.2 = X % p ^ (n + 6).toNat := (ofM_back (prime_lo hp)).1
theorem chM_dig {p X n : Int} (hp : primeB p = true) (hn : -6 ≤ n ∧ n < 6) : ∃ k : Nat, (k : Int) < p ∧ chM p n (ofM p n X).2.1 (ofM p n X).2.2 k = ofM p (n + 1) X := by
  have hp2 := prime_lo hp
  have k0 := Int.emod_nonneg (X / p ^ (n + 6).toNat) (show p ≠ 0 by omega)
  have k1 := Int.emod_lt_of_pos (X / p ^ (n + 6).toNat) (show 0 < p by omega)
  refine ⟨(X / p ^ (n + 6).toNat % p).toNat, by omega, ?_⟩
  unfold chM
  rw [upB_mark hp, Int.toNat_of_nonneg k0, ofM_inj hp2, show (n + 1 + 6).toNat = (n + 6).toNat + 1 by omega, Int.pow_succ]
  have e1 := Int.emod_add_mul_ediv X (p ^ (n + 6).toNat)
  have e2 := Int.emod_add_mul_ediv (X / p ^ (n + 6).toNat) p
  have e3 : X = X % p ^ (n + 6).toNat + X / p ^ (n + 6).toNat % p * p ^ (n + 6).toNat + p ^ (n + 6).toNat * p * (X / p ^ (n + 6).toNat / p) := by
    have e4 : p ^ (n + 6).toNat * (X / p ^ (n + 6).toNat) = X / p ^ (n + 6).toNat % p * p ^ (n + 6).toNat + p ^ (n + 6).toNat * p * (X / p ^ (n + 6).toNat / p) := by
      conv => lhs; rhs; rw [← e2]
      rw [Int.mul_add, Int.mul_comm (p ^ (n + 6).toNat) (X / p ^ (n + 6).toNat % p), Int.mul_assoc]
    omega
  conv => rhs; lhs; rw [e3]
  rw [Int.add_mul_emod_self_left]
theorem parM_up {p X n : Int} (hp : primeB p = true) (hn : -6 ≤ n ∧ n < 6) : parM p (n + 1) (ofM p (n + 1) X).2.1 (ofM p (n + 1) X).2.2 = ofM p n X := by
  have hp2 := prime_lo hp
  unfold parM
  rw [upB_mark hp, show n + 1 - 1 = n by omega, ofM_inj hp2]
  exact Int.emod_emod_of_dvd _ ⟨p ^ 1, by rw [← Int.pow_add]; congr 1; omega⟩
def qB (p L T D : Int) (B : Int × Int × Int) (c : Int) : Bool := (chM p L T D c).1 == B.1 && ((chM p L T D c).2.1 == B.2.1 && (chM p L T D c).2.2 == B.2.2)
theorem find_ev {p L T D : Int} (h : ballB p L T D = true) (hL : L ≠ 6) (B : Int × Int × Int) (d : Nat) : ∀ (i : Int), 0 ≤ i → i + d < p → qB p L T D B (i + d) = true →
    ∃ m, (i ≤ m ∧ m < p) ∧ Ev (fun k => spec_l10Digit.l0 k p i B.1 B.2.1 B.2.2 L T D) m ∧ Ev (fun k => impl_toward.l0 k p (i + 1) L T D B.1 B.2.1 B.2.2) (m + 1) := by
  have hp := (ball_parts h).1
  have hp7 := prime_hi hp
  have hch (c : Int) : chW p L T D c = ((chM p L T D c).1, (chM p L T D c).2.1, (chM p L T D c).2.2, true) := by unfold chW; rw [if_neg hL]
  have yes (i : Int) (h0 : 0 ≤ i) (h1 : i < p) (hq : qB p L T D B i = true) : ∃ m, (i ≤ m ∧ m < p) ∧ Ev (fun k => spec_l10Digit.l0 k p i B.1 B.2.1 B.2.2 L T D) m ∧ Ev (fun k => impl_toward.l0 k p (i + 1) L T D B.1 B.2.1 B.2.2) (m + 1) := by
    unfold qB at hq
    refine ⟨i, ⟨Int.le_refl _, h1⟩, ?_, ?_⟩
    · refine Ev.up ?_
      simp only [spec_l10Digit.l0, if_pos h1]
      have hc := spec_l01Child_ev h (c := i) (by omega)
      rw [hch] at hc
      refine Ev.bind hc ?_
      simp only [hq, if_true]
      exact Ev.now _
    · refine Ev.up ?_
      simp only [impl_toward.l0, if_pos (show i + 1 ≤ p by omega)]
      have hc := impl_neighbour_ev (i + 1) h (by omega)
      rw [if_neg (show ¬ i + 1 = 0 by omega), show i + 1 - 1 = i by omega, hch] at hc
      refine Ev.bind hc ?_
      simp only [hq, if_true]
      exact Ev.now _
  induction d with
  | zero => intro i h0 h1 hq; exact yes i h0 (by omega) (by simpa using hq)
  | succ d ih =>
    intro i h0 h1 hq
    cases hqi : qB p L T D B i with
    | true => exact yes i h0 (by omega) hqi
    | false =>
      obtain ⟨m, m1, m2, m3⟩ := ih (i + 1) (by omega) (by omega) (by rw [show i + 1 + (d : Int) = i + ((d + 1 : Nat) : Int) by omega]; exact hq)
      unfold qB at hqi
      refine ⟨m, ⟨by omega, m1.2⟩, ?_, ?_⟩
      · refine Ev.up ?_
        simp only [spec_l10Digit.l0, if_pos (show i < p by omega)]
        have hc := spec_l01Child_ev h (c := i) (by omega)
        rw [hch] at hc
        refine Ev.bind hc ?_
        rw [wid (n := i + 1) (by omega) (by omega)]
        simp only [hqi, if_true, Bool.false_eq_true, if_false]
        exact m2
      · refine Ev.up ?_
        simp only [impl_toward.l0, if_pos (show i + 1 ≤ p by omega)]
        have hc := impl_neighbour_ev (i + 1) h (by omega)
        rw [if_neg (show ¬ i + 1 = 0 by omega), show i + 1 - 1 = i by omega, hch] at hc
        refine Ev.bind hc ?_
        rw [wid (n := i + 1 + 1) (by omega) (by omega)]
        simp only [hqi, if_true, Bool.false_eq_true, if_false]
        exact m3
theorem digit_ev {p X n : Int} (hp : primeB p = true) (hn : -6 ≤ n ∧ n < 6) : ∃ m, (0 ≤ m ∧ m < p) ∧ Ev (fun k => spec_l10Digit.f k p (n + 1) (ofM p (n + 1) X).2.1 (ofM p (n + 1) X).2.2) m ∧
    Ev (fun k => impl_letterTo.f k p (upB p X n).f0 (upB p X n).f1 (upB p X n).f2 (upB p X (n + 1)).f0 (upB p X (n + 1)).f1 (upB p X (n + 1)).f2) (48 + m) := by
  have hp7 := prime_hi hp
  obtain ⟨k0, h1, h2⟩ := chM_dig (X := X) hp hn
  have hb := upB_ok (X := X) hp (show -6 ≤ n ∧ n ≤ 6 by omega)
  obtain ⟨m, m1, m2, m3⟩ := find_ev hb (by omega) (ofM p (n + 1) X) k0 0 (by omega) (by omega) (by unfold qB; rw [show (0 : Int) + (k0 : Int) = k0 by omega, h2]; simp)
  refine ⟨m, m1, ?_, ?_⟩
  · unfold spec_l10Digit.f
    have hpar := spec_l01Parent_ev (upB_ok (X := X) hp (show -6 ≤ n + 1 ∧ n + 1 ≤ 6 by omega))
    unfold parW at hpar
    rw [if_neg (show ¬ n + 1 = -6 by omega), parM_up hp hn] at hpar
    refine Ev.bind hpar ?_
    exact m2
  · unfold impl_letterTo.f
    show Ev (fun k => if n + 1 < n then _ else _) _
    simp only [if_neg (show ¬ n + 1 < n by omega)]
    unfold impl_toward.f
    refine Ev.bind (a := m + 1) m3 ?_
    rw [wid (n := 48 + (m + 1)) (by omega) (by omega), wid (n := 48 + (m + 1) - 1) (by omega) (by omega), show (48 + (m + 1) - 1) % 256 = 48 + m by omega]
    exact Ev.now _
def letW (p : Int) (b : S39) (c : Int) : Int × Int × Int × Bool := if c = 117 then parW p b.f0 b.f1 b.f2 else chW p b.f0 b.f1 b.f2 (c - 48)
def okB (p : Int) (b : S39) : Prop := ballB p b.f0 b.f1 b.f2 = true
theorem letW_ok {p : Int} {b : S39} (c : Int) (h : okB p b) (hf : (letW p b c).2.2.2 = true) : okB p ⟨(letW p b c).1, (letW p b c).2.1, (letW p b c).2.2.1⟩ := by
  unfold letW at *
  unfold okB at *
  by_cases hc : c = 117
  · simp only [if_pos hc] at *
    unfold parW at *
    by_cases h6 : b.f0 = -6
    · simp [if_pos h6] at hf
    · simp only [if_neg h6]; exact parM_ball h h6
  · simp only [if_neg hc] at *
    unfold chW at *
    by_cases h6 : b.f0 = 6
    · simp [if_pos h6] at hf
    · simp only [if_neg h6]; exact chM_ball _ h h6
theorem stepB_bd {p : Int} {c : Int} (hp : primeB p = true) (h : stepB p c = true) : c = 117 ∨ (48 ≤ c ∧ c - 48 < p ∧ c ≤ 54) := by
  have := prime_hi hp
  unfold stepB at h
  rw [Bool.or_eq_true, beq_iff_eq, decide_eq_true_eq] at h
  omega
theorem spec_l10Step_ev {p L T D c : Int} (h : ballB p L T D = true) (hc : 0 ≤ c ∧ c ≤ 255) : Ev (fun k => spec_l10Step.f k p L T D c) (if c = 117 then parW p L T D else chW p L T D (c - 48)) := by
  unfold spec_l10Step.f
  by_cases h0 : c = 117
  · simp only [if_pos h0]; exact Ev.bind (spec_l01Parent_ev h) (Ev.now _)
  · simp only [if_neg h0]
    rw [wid (n := c) (by omega) (by omega), wid (n := c - 48) (by omega) (by omega)]
    exact Ev.bind (spec_l01Child_ev h (by omega)) (Ev.now _)

theorem spec_l10Is_ev (p : Int) (s : ByteArray) (hp : primeB p = true) (hs : s.size ≤ 4611686018427387904) : Ev (fun k => spec_l10Is.f k p s) (stepsB p s) := by
  have h2 := prime_lo hp
  have h7 := prime_hi hp
  unfold spec_l10Is.f stepsB
  by_cases h40 : s.size ≤ 40
  · rw [decide_eq_true h40, Bool.true_and]
    simp only [if_neg (show ¬ (s.size : Int) > 40 by omega)]
    rw [← ite_tf ((List.range s.size).all _)]
    have body : ∀ (i : Nat) (k : Nat), i < s.size → bt s i ≠ 117 → spec_l10Is.l0 (k + 1) p s i = if decide (48 ≤ bt s i ∧ bt s i - 48 < p) = true then spec_l10Is.l0 k p s ((i : Int) + 1) else some false := by
      intro i k hi hc
      have := bt_lo s i
      have := bt_hi s i
      simp only [spec_l10Is.l0]
      rw [if_pos (by omega), if_pos (by omega), if_neg hc, wid (n := bt s i) (by omega) (by omega), wid (n := bt s i - 48) (by omega) (by omega), wid (n := p - 1) (by omega) (by omega), In_eq, wid (n := (i : Int) + 1) (by omega) (by omega)]
      simp only [Option.bind_some]
      rw [show decide (0 ≤ bt s i - 48 ∧ bt s i - 48 ≤ p - 1) = decide (48 ≤ bt s i ∧ bt s i - 48 < p) from decide_eq_decide.2 (by omega)]
    refine all_ev' (fun k i => spec_l10Is.l0 k p s i) s.size (fun i => stepB p (bt s i)) true false ?_ ?_ ?_
    · intro i r hi hb hr
      refine Ev.step (f := fun k => spec_l10Is.l0 k p s ((i : Int) + 1)) (fun k => ?_) hr
      by_cases hc : bt s i = 117
      · simp only [spec_l10Is.l0]
        rw [if_pos (by omega), if_pos (by omega), if_pos hc, wid (by omega) (by omega)]
      · rw [body i k hi hc]
        have : decide (48 ≤ bt s i ∧ bt s i - 48 < p) = true := by simpa [stepB, hc] using hb
        rw [this]; simp
    · intro i hi hb
      refine Ev.step (f := fun _ => some false) (fun k => ?_) (Ev.now _)
      have hc : bt s i ≠ 117 := by intro h; simp [stepB, h] at hb
      rw [body i k hi hc]
      have : decide (48 ≤ bt s i ∧ bt s i - 48 < p) = false := by
        unfold stepB at hb
        rw [beq_eq_false_iff_ne.2 hc, Bool.false_or] at hb
        exact hb
      rw [this]; simp
    · exact Ev.step (f := fun _ => some true) (fun k => by simp only [spec_l10Is.l0]; rw [if_neg (by omega)]) (Ev.now _)
  · rw [decide_eq_false h40, Bool.false_and]
    simp only [if_pos (show (s.size : Int) > 40 by omega)]
    exact Ev.now _

theorem impl_isSteps_ev (p : Int) (s : ByteArray) (hp : primeB p = true) (hs : s.size ≤ 4611686018427387904) : Ev (fun k => impl_isSteps.f k p s) (stepsB p s) := by
  have h2 := prime_lo hp
  have h7 := prime_hi hp
  unfold impl_isSteps.f stepsB
  have body : ∀ (i : Nat) (k : Nat), i < s.size → bt s i ≠ 117 → impl_isSteps.l0 (k + 1) p s s.size i = if decide (48 ≤ bt s i ∧ bt s i - 48 < p) = true then impl_isSteps.l0 k p s s.size ((i : Int) + 1) else some false := by
    intro i k hi hc
    have := bt_lo s i
    have := bt_hi s i
    simp only [impl_isSteps.l0]
    rw [if_pos (by omega), if_pos (by omega), if_pos (by omega), if_neg hc, wid (n := (i : Int) + 1) (by omega) (by omega)]
    by_cases h1 : bt s i < 48
    · rw [if_pos h1, decide_eq_false (by omega)]; simp
    · rw [if_neg h1, show (bt s i - 48) % 256 = bt s i - 48 from by omega]
      by_cases h3 : bt s i - 48 ≥ p
      · rw [if_pos h3, decide_eq_false (by omega)]; simp
      · rw [if_neg h3, decide_eq_true (by omega)]; simp
  have := all_ev' (fun k i => impl_isSteps.l0 k p s s.size i) s.size (fun i => stepB p (bt s i)) (decide ((s.size : Int) ≤ 40)) false (by
    intro i r hi hb hr
    refine Ev.step (f := fun k => impl_isSteps.l0 k p s s.size ((i : Int) + 1)) (fun k => ?_) hr
    by_cases hc : bt s i = 117
    · simp only [impl_isSteps.l0]
      rw [if_pos (by omega), if_pos (by omega), if_pos (by omega), if_pos hc, wid (by omega) (by omega)]
    · rw [body i k hi hc]
      have : decide (48 ≤ bt s i ∧ bt s i - 48 < p) = true := by simpa [stepB, hc] using hb
      rw [this]; simp) (by
    intro i hi hb
    refine Ev.step (f := fun _ => some false) (fun k => ?_) (Ev.now _)
    have hc : bt s i ≠ 117 := by intro h; simp [stepB, h] at hb
    rw [body i k hi hc]
    have : decide (48 ≤ bt s i ∧ bt s i - 48 < p) = false := by
      unfold stepB at hb
      rw [beq_eq_false_iff_ne.2 hc, Bool.false_or] at hb
      exact hb
    rw [this]; simp) (Ev.step (f := fun _ => some (decide ((s.size : Int) ≤ 40))) (fun k => by simp only [impl_isSteps.l0]; rw [if_neg (by omega)]) (Ev.now _))
  rw [show (decide (s.size ≤ 40) && (List.range s.size).all (fun i => stepB p (bt s i))) = (if (List.range s.size).all (fun i => stepB p (bt s i)) = true then decide ((s.size : Int) ≤ 40) else false) from by
    cases (List.range s.size).all (fun i => stepB p (bt s i)) with
    | false => simp
    | true => simp only [if_true, Bool.and_true]; exact decide_eq_decide.2 (by omega)]
  exact this

theorem spec_l01Prime_eq (p : Int) : spec_l01Prime.f p = some (primeB p) := by
  unfold spec_l01Prime.f primeB
  by_cases h2 : p = 2
  · simp [h2]
  · by_cases h3 : p = 3
    · simp [h3]
    · by_cases h5 : p = 5
      · simp [h5]
      · rw [if_neg h2, if_neg h3, if_neg h5, beq_eq_false_iff_ne.2 h2, beq_eq_false_iff_ne.2 h3, beq_eq_false_iff_ne.2 h5]; rfl

theorem spec_l01Is_ev (p L T D : Int) : Ev (fun k => spec_l01Is.f k p L T D) (ballB p L T D) := by
  have hno : Ev (fun k => spec_l01Is.j0 k p true L T D) false := Ev.step (f := fun _ => some false) (fun k => by simp only [spec_l01Is.j0, if_true]) (Ev.now _)
  unfold spec_l01Is.f
  refine Ev.bindv (spec_l01Prime_eq p) ?_
  unfold ballB
  cases hp : primeB p with
  | false => simpa using hno
  | true =>
    have hp2 := prime_lo hp
    simp only [if_true, Bool.true_and]
    refine Ev.bindv (In_eq L (-6) 6) ?_
    by_cases hL : -6 ≤ L ∧ L ≤ 6
    · rw [decide_eq_true hL]; simp only [if_true, Bool.true_and]
      refine Ev.bindv (In_eq D 0 6) ?_
      by_cases hD : 0 ≤ D ∧ D ≤ 6
      · rw [decide_eq_true hD]; simp only [Bool.not_true, Bool.true_and]
        have hn := wid (n := L + D) (by omega) (by omega)
        by_cases h0 : L + D ≤ 0
        · rw [if_pos h0]
          refine Ev.step (f := fun _ => some (T == 0 && D == 0)) (fun k => ?_) (Ev.now _)
          simp only [spec_l01Is.j0]
          rw [if_neg (by decide), hn, if_pos h0]
          by_cases hT : T = 0
          · simp [hT]
          · simp [hT]
        · rw [if_neg h0]
          refine Ev.step (f := fun k => (spec_l01Power.f k p (L + D)).bind fun t => (spec_l01In.f T 0 (wrap64 (t - 1))).bind fun t2 => if t2 = true then (if D = 0 then some true else if p = 0 then none else some (Int.tmod T p != 0)) else some false) (fun k => by simp only [spec_l01Is.j0]; rw [if_neg (by decide), hn, if_neg h0]) ?_
          refine Ev.bind (spec_l01Power_ev p (L + D) (by omega)) ?_
          rw [powW_prime hp _ (by omega)]
          have hpp := ipow_pos (p := p) (by omega) (L + D).toNat
          have hpt := pow_le_top hp (L + D).toNat (by omega)
          rw [wid (n := p ^ (L + D).toNat - 1) (by omega) (by omega)]
          refine Ev.bindv (In_eq _ _ _) ?_
          rw [show decide (0 ≤ T ∧ T ≤ p ^ (L + D).toNat - 1) = decide (0 ≤ T ∧ T < p ^ (L + D).toNat) from decide_eq_decide.2 (by omega)]
          cases decide (0 ≤ T ∧ T < p ^ (L + D).toNat) with
          | false => simp only [Bool.false_eq_true, if_false, Bool.false_and]; exact Ev.now _
          | true =>
            simp only [if_true, Bool.true_and]
            by_cases hd : D = 0
            · simp only [hd, if_true]; simp; exact Ev.now _
            · rw [if_neg hd, if_neg (by omega), show (D == 0) = false from beq_eq_false_iff_ne.2 hd, Bool.false_or]
              exact Ev.now _
      · rw [decide_eq_false hD]; simpa using hno
    · rw [decide_eq_false hL]; simpa using hno

def codeB (p : Int) (l : List S39) : Bool := primeB p && l.all (fun b => ballB p b.f0 b.f1 b.f2)
theorem spec_l01Code_ev (p : Int) (l : List S39) (hl : l.length ≤ 4611686018427387904) : Ev (fun k => spec_l01Code.f k p l) (if codeB p l then 0 else 1) := by
  unfold spec_l01Code.f codeB
  refine Ev.bindv (spec_l01Prime_eq p) ?_
  cases hp : primeB p with
  | false => simp; exact Ev.now _
  | true =>
    simp only [if_true, Bool.true_and]
    rw [← all_range_getD l z39]
    refine all_ev' (fun k i => spec_l01Code.l0 k p l i) l.length (fun i => ballB p (l.getD i z39).f0 (l.getD i z39).f1 (l.getD i z39).f2) 0 1 ?_ ?_ ?_
    · intro i r hi hb hr
      refine Ev.step (f := fun k => (spec_l01Is.f k p (l.getD i z39).f0 (l.getD i z39).f1 (l.getD i z39).f2).bind fun t => if t = true then spec_l01Code.l0 k p l ((i : Int) + 1) else some 1) (fun k => ?_) ?_
      · simp only [spec_l01Code.l0]
        rw [if_pos (by omega), if_pos (by omega), wid (by omega) (by omega)]; rfl
      · refine Ev.bind (spec_l01Is_ev _ _ _ _) ?_
        rw [hb]; simpa using hr
    · intro i hi hb
      refine Ev.step (f := fun k => (spec_l01Is.f k p (l.getD i z39).f0 (l.getD i z39).f1 (l.getD i z39).f2).bind fun t => if t = true then spec_l01Code.l0 k p l ((i : Int) + 1) else some 1) (fun k => ?_) ?_
      · simp only [spec_l01Code.l0]
        rw [if_pos (by omega), if_pos (by omega), wid (by omega) (by omega)]; rfl
      · refine Ev.bind (spec_l01Is_ev _ _ _ _) ?_
        rw [hb]; simp; exact Ev.now _
    · exact Ev.step (f := fun _ => some 0) (fun k => by simp only [spec_l01Code.l0]; rw [if_neg (by omega)]) (Ev.now _)

theorem impl_isPrime_eq (p : Int) : impl_isPrime.f p = some (primeB p) := by
  unfold impl_isPrime.f primeB
  by_cases h2 : p = 2
  · simp [h2]
  · by_cases h3 : p = 3
    · simp [h3]
    · by_cases h5 : p = 5
      · simp [h5]
      · rw [if_neg h2, if_neg h3, if_neg h5, beq_eq_false_iff_ne.2 h2, beq_eq_false_iff_ne.2 h3, beq_eq_false_iff_ne.2 h5]; rfl

theorem impl_IsBall_ev (p L T D : Int) : Ev (fun k => impl_IsBall.f k p L T D) (ballB p L T D) := by
  have hno : Ev (fun k => impl_IsBall.j0 k p true L T D) false := Ev.step (f := fun _ => some false) (fun k => by simp only [impl_IsBall.j0, if_true]) (Ev.now _)
  unfold impl_IsBall.f
  refine Ev.bindv (impl_isPrime_eq p) ?_
  unfold ballB
  cases hp : primeB p with
  | false => simpa using hno
  | true =>
    have hp2 := prime_lo hp
    simp only [if_true, Bool.true_and]
    refine Ev.bindv (impl_isLevel_eq L) ?_
    by_cases hL : -6 ≤ L ∧ L ≤ 6
    · rw [decide_eq_true hL]; simp only [if_true, Bool.true_and]
      by_cases hD0 : D < 0
      · rw [decide_eq_false (show ¬ (0 ≤ D ∧ D ≤ 6) by omega)]; simp only [if_pos hD0, Bool.false_and]; exact hno
      simp only [if_neg hD0]
      by_cases hD : 0 ≤ D ∧ D ≤ 6
      · rw [decide_eq_true hD, decide_eq_false (show ¬ D > 6 by omega)]; simp only [Bool.true_and]
        have hn := wid (n := L + D) (by omega) (by omega)
        by_cases h0 : L + D ≤ 0
        · rw [if_pos h0]
          refine Ev.step (f := fun _ => some (T == 0 && D == 0)) (fun k => ?_) (Ev.now _)
          simp only [impl_IsBall.j0]
          rw [if_neg (by decide), hn, if_pos h0]
          by_cases hT : T = 0
          · simp [hT]
          · simp [hT]
        · rw [if_neg h0]
          by_cases hT0 : T ≥ 0
          · refine Ev.step (f := fun k => (impl_power.f k p (L + D)).bind fun t => if T < t then (if D = 0 then some true else if p = 0 then none else some (Int.tmod T p != 0)) else some false) (fun k => by simp only [impl_IsBall.j0]; rw [if_neg (by decide), hn, if_neg h0, if_pos hT0]) ?_
            refine Ev.bind (impl_power_ev p (L + D) (by omega)) ?_
            rw [powW_prime hp _ (by omega)]
            by_cases hT1 : T < p ^ (L + D).toNat
            · rw [if_pos hT1, decide_eq_true (show 0 ≤ T ∧ T < p ^ (L + D).toNat from ⟨hT0, hT1⟩), Bool.true_and]
              by_cases hd : D = 0
              · simp only [hd, if_true]; simp; exact Ev.now _
              · rw [if_neg hd, if_neg (by omega), show (D == 0) = false from beq_eq_false_iff_ne.2 hd, Bool.false_or]
                exact Ev.now _
            · rw [if_neg hT1, decide_eq_false (show ¬ (0 ≤ T ∧ T < p ^ (L + D).toNat) from fun h => hT1 h.2), Bool.false_and]
              exact Ev.now _
          · rw [decide_eq_false (show ¬ (0 ≤ T ∧ T < p ^ (L + D).toNat) from fun h => hT0 h.1), Bool.false_and]
            refine Ev.step (f := fun _ => some false) (fun k => ?_) (Ev.now _)
            simp only [impl_IsBall.j0]
            rw [if_neg (by decide), hn, if_neg h0, if_neg hT0]
      · rw [decide_eq_false hD, decide_eq_true (show D > 6 by omega)]; simpa using hno
    · rw [decide_eq_false hL]; simpa using hno

theorem ballB_prime {p L T D : Int} (h : ballB p L T D = true) : primeB p = true := by
  unfold ballB at h; rw [Bool.and_eq_true] at h; exact h.1
def stepsCodeW (p L T D : Int) (s : ByteArray) : Int := if ballB p L T D then (if stepsB p s then 0 else 6) else 1
theorem spec_l10Code_ev (p : Int) (s : ByteArray) (l : List S39) (hs : s.size ≤ 4611686018427387904) (hl : l.length ≤ 4611686018427387904) : Ev (fun k => spec_l10Code.f k p s l) (if codeB p l then (if stepsB p s then 0 else 6) else 1) := by
  unfold spec_l10Code.f
  refine Ev.bind (spec_l01Code_ev p l hl) ?_
  cases hc : codeB p l with
  | false => simp; exact Ev.now _
  | true =>
    have hp : primeB p = true := by unfold codeB at hc; rw [Bool.and_eq_true] at hc; exact hc.1
    simp only [if_true]
    refine Ev.bind (spec_l10Is_ev p s hp hs) ?_
    cases stepsB p s <;> (simp; exact Ev.now _)
theorem impl_stepsCode_ev (p L T D : Int) (s : ByteArray) (hs : s.size ≤ 4611686018427387904) : Ev (fun k => impl_stepsCode.f k p L T D s) (stepsCodeW p L T D s) := by
  unfold impl_stepsCode.f stepsCodeW
  refine Ev.bind (impl_IsBall_ev p L T D) ?_
  cases hb : ballB p L T D with
  | false => simp; exact Ev.now _
  | true =>
    simp only [if_true]
    refine Ev.bind (impl_isSteps_ev p s (ballB_prime hb) hs) ?_
    cases stepsB p s <;> (simp; exact Ev.now _)

def backL (p : Int) : List S39 → List Int → Prop
  | [_], [] => True
  | x :: y :: zs, c :: cs => Ev (fun k => impl_letterTo.f k p x.f0 x.f1 x.f2 y.f0 y.f1 y.f2) c ∧ (0 ≤ c ∧ c ≤ 255) ∧ backL p (y :: zs) cs
  | _, _ => False
theorem backL_len {p : Int} : ∀ (l : List S39) (cs : List Int), backL p l cs → l.length = cs.length + 1 := by
  intro l
  induction l with
  | nil => intro cs h; cases cs <;> cases h
  | cons x l ih =>
    intro cs h
    cases l with
    | nil => cases cs with
      | nil => rfl
      | cons c cs => cases h
    | cons y zs => cases cs with
      | nil => cases h
      | cons c cs => simp only [List.length_cons]; have := ih cs h.2.2; simp only [List.length_cons] at this; omega
theorem backL_at {p : Int} : ∀ (l : List S39) (cs : List Int), backL p l cs → ∃ K, ∀ k, K ≤ k → ∀ i, i < cs.length → impl_ReverseSteps.at_ k p l i = some (cs.getD i 0) ∧ 0 ≤ cs.getD i 0 ∧ cs.getD i 0 ≤ 255 := by
  intro l
  induction l with
  | nil => intro cs h; cases cs <;> cases h
  | cons x l ih =>
    intro cs h
    cases l with
    | nil => cases cs with
      | nil => exact ⟨0, fun _ _ i hi => absurd hi (Nat.not_lt_zero i)⟩
      | cons c cs => cases h
    | cons y zs => cases cs with
      | nil => cases h
      | cons c cs =>
        obtain ⟨K, hK⟩ := ih cs h.2.2
        obtain ⟨⟨K2, hK2⟩, hc, _⟩ := h
        refine ⟨max K K2, fun k hk i hi => ?_⟩
        cases i with
        | zero => exact ⟨hK2 k (by omega), hc⟩
        | succ i => exact hK k (by omega) i (by simpa using hi)
theorem rev_ok {p : Int} {l : List S39} {cs : List Int} (h : backL p l.reverse cs) (hl : cs.length < 1000) : ∃ K, ∀ k, K ≤ k → impl_ReverseSteps.okB k p l = true ∧ (⟨((List.range (l.length - 1)).map (impl_ReverseSteps.byte k p l)).toArray⟩ : ByteArray) = strOfNums cs := by
  obtain ⟨K, hK⟩ := backL_at _ _ h
  have hlen := backL_len _ _ h
  rw [List.length_reverse] at hlen
  refine ⟨K, fun k hk => ⟨?_, ?_⟩⟩
  · unfold impl_ReverseSteps.okB
    rw [Bool.and_eq_true, decide_eq_true_eq, List.all_eq_true]
    refine ⟨by omega, fun i hi => ?_⟩
    have h1 := hK k hk i (by have := List.mem_range.1 hi; omega)
    rw [h1.1]
    exact decide_eq_true h1.2
  · unfold strOfNums
    congr 2
    apply List.ext_getElem
    · simp; omega
    · intro i h1 h2
      simp only [List.length_map] at h2
      simp only [List.getElem_map, List.getElem_range]
      unfold impl_ReverseSteps.byte
      rw [(hK k hk i h2).1]
      show UInt8.ofNat (cs.getD i 0).toNat = _
      rw [List.getD_eq_getElem?_getD, List.getElem?_eq_getElem h2]
      rfl
theorem str_cons (c : Int) (cs : List Int) : strOfNums [c] ++ strOfNums cs = strOfNums (c :: cs) := by
  apply ByteArray.ext
  rw [ByteArray.data_append]
  apply Array.toList_inj.1
  rw [Array.toList_append]
  rfl
theorem back_child {p L T D c : Int} (hL : L ≠ 6) : Ev (fun k => impl_letterTo.f k p (chW p L T D c).1 (chW p L T D c).2.1 (chW p L T D c).2.2.1 L T D) 117 := by
  unfold impl_letterTo.f chW
  simp only [if_neg hL]
  have : (chM p L T D c).1 = L + 1 := rfl
  simp only [this, if_pos (show L < L + 1 by omega)]
  exact Ev.now _
theorem back_parent {p L T D : Int} (h : ballB p L T D = true) (hL : L ≠ -6) : ∃ m, (0 ≤ m ∧ m < p) ∧ Ev (fun k => spec_l10Digit.f k p L T D) m ∧ Ev (fun k => impl_letterTo.f k p (parW p L T D).1 (parW p L T D).2.1 (parW p L T D).2.2.1 L T D) (48 + m) := by
  have hp := (ball_parts h).1
  have hl := (ball_parts h).2.1
  obtain ⟨m, m1, m2, m3⟩ := digit_ev (X := markOf p T D) (n := L - 1) hp (by omega)
  have e : ofM p (L - 1 + 1) (markOf p T D) = (L, T, D) := by rw [show L - 1 + 1 = L by omega]; exact ofM_mark h
  have e2 : upB p (markOf p T D) (L - 1 + 1) = ⟨L, T, D⟩ := by unfold upB; rw [e]
  rw [e, show L - 1 + 1 = L by omega] at m2
  rw [e2] at m3
  refine ⟨m, m1, m2, ?_⟩
  have e3 : parW p L T D = ((upB p (markOf p T D) (L - 1)).f0, (upB p (markOf p T D) (L - 1)).f1, (upB p (markOf p T D) (L - 1)).f2, true) := by
    unfold parW parM upB; rw [if_neg hL]
  rw [e3]
  exact m3
theorem rev_walk {p : Int} (s : ByteArray) (hp : primeB p = true) (hs : s.size ≤ 40) (hst : ∀ i, i < s.size → stepB p (bt s (i : Int)) = true) (n : Nat) : ∀ (i : Nat) (b : S39) (xs : List S39) (cs : List Int), i + n = s.size → okB p b → xs.length = i → cs.length = i → backL p (b :: xs.reverse) cs →
    (Ev (fun k => impl_follow.l0 k p s (xs ++ [b]) s.size i b.f0 b.f1 b.f2) ([], false) ∧ Ev (fun k => spec_ReverseSteps.l0 k p s (strOfNums cs) i b.f0 b.f1 b.f2) (⟨#[]⟩, 3)) ∨
    ∃ (ys : List S39) (ds : List Int), Ev (fun k => impl_follow.l0 k p s (xs ++ [b]) s.size i b.f0 b.f1 b.f2) (ys, true) ∧ Ev (fun k => spec_ReverseSteps.l0 k p s (strOfNums cs) i b.f0 b.f1 b.f2) (strOfNums ds, 0) ∧ backL p ys.reverse ds ∧ ds.length ≤ 40 := by
  induction n with
  | zero =>
    intro i b xs cs hi hb hl hc hx
    right
    refine ⟨xs ++ [b], cs, ?_, ?_, ?_, by omega⟩
    · exact Ev.step (f := fun _ => some (xs ++ [b], true)) (fun k => by simp only [impl_follow.l0]; rw [if_neg (by omega)]) (Ev.now _)
    · exact Ev.step (f := fun _ => some (strOfNums cs, 0)) (fun k => by simp only [spec_ReverseSteps.l0]; rw [if_neg (by omega)]) (Ev.now _)
    · simpa using hx
  | succ n ih =>
    intro i b xs cs hi hb hl hc hx
    have hlt : i < s.size := by omega
    have hcb := stepB_bd hp (hst i hlt)
    have hp7 := prime_hi hp
    have hw : wrap64 ((i : Int) + 1) = ((i + 1 : Nat) : Int) := by rw [wid (by omega) (by omega)]; rfl
    have step := spec_l10Step_ev hb (c := bt s (i : Int)) ⟨bt_lo _ _, bt_hi _ _⟩
    have hsz : (strOfNums cs).size = cs.length := strOfNums_size cs
    by_cases h117 : bt s (i : Int) = 117
    · have stp := impl_neighbour_ev 0 hb (by omega)
      rw [if_pos rfl] at stp
      rw [if_pos h117] at step
      by_cases hL : b.f0 = -6
      · left
        have e : parW p b.f0 b.f1 b.f2 = (0, 0, 0, false) := by unfold parW; rw [if_pos hL]
        rw [e] at stp step
        constructor
        · refine Ev.up ?_
          simp only [impl_follow.l0]
          simp only [if_pos (show (i : Int) < (s.size : Int) by omega), if_pos (show (0 : Int) ≤ (i : Int) by omega), if_pos h117]
          refine Ev.bind stp ?_
          exact Ev.now _
        · refine Ev.up ?_
          simp only [spec_ReverseSteps.l0]
          simp only [if_pos (show (i : Int) < (s.size : Int) by omega), if_pos (show (0 : Int) ≤ (i : Int) by omega)]
          refine Ev.bind step ?_
          exact Ev.now _
      · obtain ⟨m, m1, m2, m3⟩ := back_parent hb hL
        have hf : (parW p b.f0 b.f1 b.f2).2.2.2 = true := by unfold parW; rw [if_neg hL]
        have hb2 : okB p ⟨(parW p b.f0 b.f1 b.f2).1, (parW p b.f0 b.f1 b.f2).2.1, (parW p b.f0 b.f1 b.f2).2.2.1⟩ := by
          have := letW_ok (bt s (i : Int)) hb (by unfold letW; rw [if_pos h117]; exact hf)
          unfold letW at this; rw [if_pos h117] at this; exact this
        generalize hr : parW p b.f0 b.f1 b.f2 = r at *
        have nxt := ih (i + 1) ⟨r.1, r.2.1, r.2.2.1⟩ (xs ++ [b]) ((48 + m) :: cs) (by omega) hb2 (by simp [hl]) (by simp [hc]) (by
          rw [List.reverse_append]
          exact ⟨m3, by omega, hx⟩)
        have g1 : ∀ {z : List S39 × Bool}, Ev (fun k => impl_follow.l0 k p s (xs ++ [b] ++ [⟨r.1, r.2.1, r.2.2.1⟩]) s.size ((i + 1 : Nat) : Int) r.1 r.2.1 r.2.2.1) z → Ev (fun k => impl_follow.l0 k p s (xs ++ [b]) s.size i b.f0 b.f1 b.f2) z := fun {z} hz => by
          refine Ev.up ?_
          simp only [impl_follow.l0]
          simp only [if_pos (show (i : Int) < (s.size : Int) by omega), if_pos (show (0 : Int) ≤ (i : Int) by omega), if_pos h117]
          refine Ev.bind stp ?_
          simp only [if_pos hf, if_pos (show (xs ++ [b]).length < 5864062014805 by simp; omega), hw]
          exact hz
        have g2 : ∀ {z : ByteArray × Int}, Ev (fun k => spec_ReverseSteps.l0 k p s (strOfNums ((48 + m) :: cs)) ((i + 1 : Nat) : Int) r.1 r.2.1 r.2.2.1) z → Ev (fun k => spec_ReverseSteps.l0 k p s (strOfNums cs) i b.f0 b.f1 b.f2) z := fun {z} hz => by
          refine Ev.up ?_
          simp only [spec_ReverseSteps.l0]
          simp only [if_pos (show (i : Int) < (s.size : Int) by omega), if_pos (show (0 : Int) ≤ (i : Int) by omega)]
          refine Ev.bind step ?_
          simp only [if_pos hf, if_pos h117]
          refine Ev.bind m2 ?_
          rw [wid (n := 48 + m) (by omega) (by omega), show (48 + m) % 256 = 48 + m by omega]
          simp only [Option.bind_some, strOfNums_size, if_pos (show [48 + m].length + cs.length ≤ 9223372036854775807 by simp; omega), hw, str_cons]
          exact hz
        rcases nxt with ⟨n1, n2⟩ | ⟨ys, ds, n1, n2, n3, n4⟩
        · exact Or.inl ⟨g1 n1, g2 n2⟩
        · exact Or.inr ⟨ys, ds, g1 n1, g2 n2, n3, n4⟩
    · have stp := impl_neighbour_ev (bt s (i : Int) - 48 + 1) hb (by omega)
      rw [if_neg (by omega), show bt s (i : Int) - 48 + 1 - 1 = bt s (i : Int) - 48 from by omega] at stp
      have em : (bt s (i : Int) - 48) % 256 = bt s (i : Int) - 48 := by omega
      rw [if_neg h117] at step
      by_cases hL : b.f0 = 6
      · left
        have e : chW p b.f0 b.f1 b.f2 (bt s (i : Int) - 48) = (0, 0, 0, false) := by unfold chW; rw [if_pos hL]
        rw [e] at stp step
        constructor
        · refine Ev.up ?_
          simp only [impl_follow.l0]
          simp only [if_pos (show (i : Int) < (s.size : Int) by omega), if_pos (show (0 : Int) ≤ (i : Int) by omega), if_neg h117, em]
          refine Ev.bind stp ?_
          exact Ev.now _
        · refine Ev.up ?_
          simp only [spec_ReverseSteps.l0]
          simp only [if_pos (show (i : Int) < (s.size : Int) by omega), if_pos (show (0 : Int) ≤ (i : Int) by omega)]
          refine Ev.bind step ?_
          exact Ev.now _
      · have m3 := back_child (p := p) (T := b.f1) (D := b.f2) (c := bt s (i : Int) - 48) hL
        have hf : (chW p b.f0 b.f1 b.f2 (bt s (i : Int) - 48)).2.2.2 = true := by unfold chW; rw [if_neg hL]
        have hb2 : okB p ⟨(chW p b.f0 b.f1 b.f2 (bt s (i : Int) - 48)).1, (chW p b.f0 b.f1 b.f2 (bt s (i : Int) - 48)).2.1, (chW p b.f0 b.f1 b.f2 (bt s (i : Int) - 48)).2.2.1⟩ := by
          have := letW_ok (bt s (i : Int)) hb (by unfold letW; rw [if_neg h117]; exact hf)
          unfold letW at this; rw [if_neg h117] at this; exact this
        generalize hr : chW p b.f0 b.f1 b.f2 (bt s (i : Int) - 48) = r at *
        have nxt := ih (i + 1) ⟨r.1, r.2.1, r.2.2.1⟩ (xs ++ [b]) (117 :: cs) (by omega) hb2 (by simp [hl]) (by simp [hc]) (by
          rw [List.reverse_append]
          exact ⟨m3, by omega, hx⟩)
        have g1 : ∀ {z : List S39 × Bool}, Ev (fun k => impl_follow.l0 k p s (xs ++ [b] ++ [⟨r.1, r.2.1, r.2.2.1⟩]) s.size ((i + 1 : Nat) : Int) r.1 r.2.1 r.2.2.1) z → Ev (fun k => impl_follow.l0 k p s (xs ++ [b]) s.size i b.f0 b.f1 b.f2) z := fun {z} hz => by
          refine Ev.up ?_
          simp only [impl_follow.l0]
          simp only [if_pos (show (i : Int) < (s.size : Int) by omega), if_pos (show (0 : Int) ≤ (i : Int) by omega), if_neg h117, em]
          refine Ev.bind stp ?_
          simp only [if_pos hf, if_pos (show (xs ++ [b]).length < 5864062014805 by simp; omega), hw]
          exact hz
        have g2 : ∀ {z : ByteArray × Int}, Ev (fun k => spec_ReverseSteps.l0 k p s (strOfNums (117 :: cs)) ((i + 1 : Nat) : Int) r.1 r.2.1 r.2.2.1) z → Ev (fun k => spec_ReverseSteps.l0 k p s (strOfNums cs) i b.f0 b.f1 b.f2) z := fun {z} hz => by
          refine Ev.up ?_
          simp only [spec_ReverseSteps.l0]
          simp only [if_pos (show (i : Int) < (s.size : Int) by omega), if_pos (show (0 : Int) ≤ (i : Int) by omega)]
          refine Ev.bind step ?_
          have e7 : (⟨#[117]⟩ : ByteArray) = strOfNums [117] := rfl
          simp only [if_pos hf, if_neg h117, strOfNums_size, if_pos (show 1 + cs.length ≤ 9223372036854775807 by omega), hw, e7, str_cons]
          exact hz
        rcases nxt with ⟨n1, n2⟩ | ⟨ys, ds, n1, n2, n3, n4⟩
        · exact Or.inl ⟨g1 n1, g2 n2⟩
        · exact Or.inr ⟨ys, ds, g1 n1, g2 n2, n3, n4⟩

theorem FnExactReverseSteps : laws_FnExactReverseSteps.Pure := by
  intro p L T D s _ _ _ _ _
  refine Ev.rounds ?_
  unfold laws_FnExactReverseSteps.f
  by_cases hbig : (s.size : Int) > 1048576
  · simp only [if_pos hbig]; exact Ev.now _
  simp only [if_neg hbig, laws_toBall.f, Option.bind_some]
  have hcode : (if codeB p [(⟨L, T, D⟩ : S39)] then (if stepsB p s then (0 : Int) else 6) else 1) = stepsCodeW p L T D s := by
    unfold stepsCodeW codeB
    rw [show (primeB p && ([(⟨L, T, D⟩ : S39)].all fun b => ballB p b.f0 b.f1 b.f2)) = ballB p L T D from by
      cases h : ballB p L T D with
      | false => simp [h]
      | true => simp [h, ballB_prime h]]
  obtain ⟨r, h1, h2⟩ : ∃ r, Ev (fun k => spec_ReverseSteps.f k p L T D s) r ∧ Ev (fun k => impl_ReverseSteps.f k p L T D s) r := by
    by_cases h : stepsCodeW p L T D s = 0
    · have hb : ballB p L T D = true := by
        unfold stepsCodeW at h
        cases hb : ballB p L T D with
        | true => rfl
        | false => rw [hb] at h; simp at h
      have hst : stepsB p s = true := by
        unfold stepsCodeW at h
        rw [hb] at h
        cases hst : stepsB p s with
        | true => rfl
        | false => rw [hst] at h; simp at h
      have hp := (ball_parts hb).1
      have hst2 := hst
      unfold stepsB at hst2
      rw [Bool.and_eq_true, decide_eq_true_eq, List.all_eq_true] at hst2
      have hs40 := hst2.1
      have key := rev_walk s hp hs40 (fun i hi => hst2.2 i (by simpa using hi)) s.size 0 ⟨L, T, D⟩ [] [] (by omega) hb rfl rfl trivial
      have sp : ∀ {z : ByteArray × Int}, Ev (fun k => spec_ReverseSteps.l0 k p s (strOfNums []) ((0 : Nat) : Int) L T D) z → Ev (fun k => spec_ReverseSteps.f k p L T D s) z := fun {z} hz => by
        unfold spec_ReverseSteps.f
        refine Ev.bind (spec_l10Code_ev p s _ (by omega) (by simp)) ?_
        rw [hcode]
        simp only [if_pos h]
        exact hz
      rcases key with ⟨n1, n2⟩ | ⟨ys, ds, n1, n2, n3, n4⟩
      · refine ⟨_, sp n2, ?_⟩
        unfold impl_ReverseSteps.f
        refine Ev.bind (impl_stepsCode_ev p L T D s (by omega)) ?_
        simp only [if_pos h]
        unfold impl_follow.f
        refine Ev.bind (a := (([] : List S39), false)) n1 ?_
        exact Ev.now _
      · refine ⟨_, sp n2, ?_⟩
        unfold impl_ReverseSteps.f
        refine Ev.bind (impl_stepsCode_ev p L T D s (by omega)) ?_
        simp only [if_pos h]
        unfold impl_follow.f
        refine Ev.bind (a := (ys, true)) n1 ?_
        obtain ⟨K, hK⟩ := rev_ok n3 (by omega)
        refine ⟨K, fun k hk => ?_⟩
        obtain ⟨o1, o2⟩ := hK k hk
        simp only [if_true, o1, o2]
    · refine ⟨(⟨#[]⟩, stepsCodeW p L T D s), ?_, ?_⟩
      · unfold spec_ReverseSteps.f
        refine Ev.bind (spec_l10Code_ev p s _ (by omega) (by simp)) ?_
        rw [hcode]
        simp only [if_neg h]; exact Ev.now _
      · unfold impl_ReverseSteps.f
        refine Ev.bind (impl_stepsCode_ev p L T D s (by omega)) ?_
        simp only [if_neg h]; exact Ev.now _
  refine Ev.bind h1 (Ev.bind h2 ?_)
  simp only [if_true]
  exact Ev.now _

end Go.Proofs.Ytbilincmcnnonaa.Pure
