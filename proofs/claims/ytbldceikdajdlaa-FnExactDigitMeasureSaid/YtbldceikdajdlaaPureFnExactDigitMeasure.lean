/- For every p, root, depth and weights, DigitMeasure of the program and of the reference return the same measure and code, leave the weights alone and return a measure of its own; no condition beyond the row's. -/
import Derived.Test.YtbldceikdajdlaaQCx62
namespace Go.Proofs.Ytbldceikdajdlaa.Pure
open Go.RowKit Go.Proofs.Ytbldceikdajdlaa.QC Go.Proofs.YtbldceikdajdlaaW.PrintWords Go.Proofs.YtbldceikdajdlaaW.PrintLast
set_option linter.unusedVariables false
set_option linter.unusedSimpArgs false
set_option linter.unusedSectionVars false

theorem wid {n : Int} (h0 : -9223372036854775808 ≤ n) (h1 : n ≤ 9223372036854775807) : wrap64 n = n := by unfold wrap64; omega
theorem Ev.val {α : Type} {o : Option α} {r : α} (h : o = some r) : Ev (fun _ => o) r := ⟨0, fun _ _ => h⟩
theorem Ev.bindv {α β : Type} {o : Option α} {f : Nat → α → Option β} {a : α} {r : β} (h : o = some a) (k : Ev (fun n => f n a) r) : Ev (fun n => o.bind (f n)) r := by
  subst h; exact k

theorem Ev.up {α : Type} {g : Nat → Option α} {r : α} (h : Ev (fun k => g (k + 1)) r) : Ev g r := Ev.step (f := fun k => g (k + 1)) (fun _ => rfl) h

def powW (p : Int) : Nat → Int → Int
  | 0, acc => acc
  | n + 1, acc => powW p n (wrap64 (acc * p))

def primeB (p : Int) : Bool := p == 2 || (p == 3 || (p == 5 || p == 7))
theorem prime_cases {p : Int} (h : primeB p = true) : p = 2 ∨ p = 3 ∨ p = 5 ∨ p = 7 := by
  simpa [primeB] using h
theorem prime_lo {p : Int} (h : primeB p = true) : 2 ≤ p := by rcases prime_cases h with h | h | h | h <;> omega
theorem prime_hi {p : Int} (h : primeB p = true) : p ≤ 7 := by rcases prime_cases h with h | h | h | h <;> omega

theorem ipow_pos {p : Int} (hp : 1 ≤ p) (n : Nat) : (1 : Int) ≤ p ^ n := by
  have := Int.pow_pos (n := p) (m := n) (by omega)
  omega
theorem ipow_mono {p : Int} (hp : 1 ≤ p) {m n : Nat} (h : m ≤ n) : p ^ m ≤ p ^ n := by
  obtain ⟨d, rfl⟩ : ∃ d, n = m + d := ⟨n - m, by omega⟩
  rw [Int.pow_add]
  have h1 := ipow_pos hp m
  have h2 := ipow_pos hp d
  have := Int.mul_le_mul_of_nonneg_left h2 (show 0 ≤ p ^ m by omega)
  rwa [Int.mul_one] at this
theorem powW_fit (p : Int) (hp : 1 ≤ p) (n : Nat) : ∀ (acc : Int), 0 ≤ acc → acc * p ^ n ≤ 9223372036854775807 → powW p n acc = acc * p ^ n := by
  induction n with
  | zero => intro acc _ _; simp [powW]
  | succ n ih =>
    intro acc h0 h
    have hpn : (1 : Int) ≤ p ^ n := ipow_pos hp n
    have e : acc * p ^ (n + 1) = acc * p * p ^ n := by rw [Int.pow_succ, Int.mul_comm (p ^ n) p, ← Int.mul_assoc]
    have h1 : 0 ≤ acc * p := Int.mul_nonneg h0 (by omega)
    have h2 : acc * p ≤ acc * p * p ^ n := by
      have := Int.mul_le_mul_of_nonneg_left hpn h1
      rwa [Int.mul_one] at this
    simp only [powW]
    rw [wid (by omega) (by omega), ih _ h1 (by omega), e]
theorem pow_le_top {p : Int} (h : primeB p = true) (n : Nat) (hn : n ≤ 22) : p ^ n ≤ 9223372036854775807 := by
  have hp := prime_lo h
  have h1 : p ^ n ≤ p ^ 22 := ipow_mono (by omega) hn
  have h2 : p ^ 22 ≤ 9223372036854775807 := by
    rcases prime_cases h with rfl | rfl | rfl | rfl <;> decide
  omega
theorem powW_prime {p : Int} (h : primeB p = true) (n : Nat) (hn : n ≤ 22) : powW p n 1 = p ^ n := by
  have hp := prime_lo h
  rw [powW_fit p (by omega) n 1 (by omega) (by rw [Int.one_mul]; exact pow_le_top h n hn), Int.one_mul]

def ballB (p L T D : Int) : Bool :=
  primeB p && (decide (-6 ≤ L ∧ L ≤ 6) && (decide (0 ≤ D ∧ D ≤ 6) && (if L + D ≤ 0 then T == 0 && D == 0 else decide (0 ≤ T ∧ T < p ^ (L + D).toNat) && (D == 0 || !(Int.tmod T p == 0)))))

def valF (p : Int) : Nat → Int → Nat
  | 0, _ => 0
  | f + 1, n => if n % p = 0 then valF p f (n / p) + 1 else 0
def val (p n : Int) : Nat := valF p n.natAbs n
theorem valF_spec {p : Int} (hp : 2 ≤ p) (f : Nat) : ∀ n : Int, n ≠ 0 → n.natAbs ≤ f → ∃ u, n = p ^ (valF p f n) * u ∧ ¬ p ∣ u := by
  induction f with
  | zero => intro n h0 hf; omega
  | succ f ih =>
    intro n h0 hf
    unfold valF
    by_cases h : n % p = 0
    · rw [if_pos h]
      obtain ⟨q, hq⟩ := Int.dvd_of_emod_eq_zero h
      have hq0 : q ≠ 0 := by intro e; subst e; simp at hq; exact h0 hq
      have hdiv : n / p = q := by rw [hq]; exact Int.mul_ediv_cancel_left q (by omega)
      rw [hdiv]
      have hlt : q.natAbs ≤ f := by
        have : n.natAbs = p.natAbs * q.natAbs := by rw [hq, Int.natAbs_mul]
        have h2 : 2 * q.natAbs ≤ p.natAbs * q.natAbs := Nat.mul_le_mul_right _ (by omega)
        omega
      obtain ⟨u, hu, hn⟩ := ih q hq0 hlt
      refine ⟨u, ?_, hn⟩
      conv => lhs; rw [hq, hu]
      rw [Int.pow_succ', Int.mul_assoc]
    · rw [if_neg h]
      exact ⟨n, by simp, fun hd => h (Int.emod_eq_zero_of_dvd hd)⟩
theorem val_spec {p n : Int} (hp : 2 ≤ p) (h : n ≠ 0) : ∃ u, n = p ^ (val p n) * u ∧ ¬ p ∣ u := valF_spec hp _ n h (Nat.le_refl _)
theorem pow_unique {p u u' : Int} (hp : 2 ≤ p) (hu : ¬ p ∣ u) (hu' : ¬ p ∣ u') : ∀ (v v' : Nat), p ^ v * u = p ^ v' * u' → v = v' := by
  have key : ∀ (v d : Nat) (x x' : Int), ¬ p ∣ x → p ^ v * x = p ^ (v + (d + 1)) * x' → False := by
    intro v d x x' hx h
    rw [Int.pow_add, Int.mul_assoc] at h
    have h2 : x = p ^ (d + 1) * x' := Int.eq_of_mul_eq_mul_left (Int.pow_ne_zero (by omega)) h
    apply hx
    rw [h2, Int.pow_succ', Int.mul_assoc]
    exact Int.dvd_mul_right _ _
  intro v v' h
  rcases Nat.lt_trichotomy v v' with h1 | h1 | h1
  · obtain ⟨d, rfl⟩ : ∃ d, v' = v + (d + 1) := ⟨v' - v - 1, by omega⟩
    exact (key v d u u' hu h).elim
  · exact h1
  · obtain ⟨d, rfl⟩ : ∃ d, v = v' + (d + 1) := ⟨v - v' - 1, by omega⟩
    exact (key v' d u' u hu' h.symm).elim
theorem val_eq {p n u : Int} {v : Nat} (hp : 2 ≤ p) (h : n = p ^ v * u) (hu : ¬ p ∣ u) : val p n = v := by
  have hn : n ≠ 0 := by
    intro e; rw [e] at h
    rcases Int.mul_eq_zero.1 h.symm with h | h
    · exact Int.pow_ne_zero (by omega) h
    · exact hu (by rw [h]; exact Int.dvd_zero p)
  obtain ⟨u', h', hu'⟩ := val_spec hp hn
  exact pow_unique hp hu' hu _ _ (h'.symm.trans h)
theorem val_pow_mul {p e : Int} (j : Nat) (hp : 2 ≤ p) (he : e ≠ 0) : val p (p ^ j * e) = j + val p e := by
  obtain ⟨u, h, hu⟩ := val_spec hp he
  refine val_eq hp (u := u) ?_ hu
  conv => lhs; rw [h]
  rw [Int.pow_add, Int.mul_assoc]
theorem val_dvd {p n : Int} (hp : 2 ≤ p) (h : n ≠ 0) (j : Nat) : p ^ j ∣ n ↔ j ≤ val p n := by
  obtain ⟨u, hu, hn⟩ := val_spec hp h
  constructor
  · rintro ⟨q, hq⟩
    rcases Nat.lt_or_ge (val p n) j with h1 | h1
    · exfalso
      obtain ⟨d, hd⟩ : ∃ d, j = val p n + (d + 1) := ⟨j - val p n - 1, by omega⟩
      have h2 : p ^ (val p n) * u = p ^ (val p n) * (p ^ (d + 1) * q) := by
        have e : n = p ^ (val p n) * (p ^ (d + 1) * q) := by rw [← Int.mul_assoc, ← Int.pow_add, ← hd]; exact hq
        exact hu.symm.trans e
      have h3 := Int.eq_of_mul_eq_mul_left (Int.pow_ne_zero (by omega)) h2
      apply hn
      rw [h3, Int.pow_succ', Int.mul_assoc]
      exact Int.dvd_mul_right _ _
    · exact h1
  · intro h1
    obtain ⟨d, hd⟩ : ∃ d, val p n = j + d := ⟨val p n - j, by omega⟩
    refine ⟨p ^ d * u, ?_⟩
    conv => lhs; rw [hu, hd, Int.pow_add, Int.mul_assoc]
theorem val_le_of_lt {p n : Int} (hp : 2 ≤ p) (h : n ≠ 0) (j : Nat) (hlt : n.natAbs < 2 ^ j) : val p n < j := by
  rcases Nat.lt_or_ge (val p n) j with h1 | h1
  · exact h1
  · exfalso
    obtain ⟨q, hq⟩ := (val_dvd hp h j).2 h1
    have hq0 : q ≠ 0 := by intro e; subst e; simp at hq; exact h hq
    have : n.natAbs = p.natAbs ^ j * q.natAbs := by rw [hq, Int.natAbs_mul, Int.natAbs_pow]
    have h2 : 2 ^ j ≤ p.natAbs ^ j := Nat.pow_le_pow_left (by omega) j
    have h3 : p.natAbs ^ j * 1 ≤ p.natAbs ^ j * q.natAbs := Nat.mul_le_mul_left _ (by omega)
    omega
theorem tdiv_bdv {x M : Int} (g : Int) (hx : -M ≤ x ∧ x ≤ M) : -M ≤ Int.tdiv x g ∧ Int.tdiv x g ≤ M := by
  have := Int.natAbs_tdiv_le_natAbs x g
  omega

theorem pow_13 {p : Int} (hp : primeB p = true) (n : Nat) (h : n ≤ 12) : p ^ n ≤ 13841287201 := by
  have hp2 := prime_lo hp
  have h1 : p ^ n ≤ p ^ 12 := ipow_mono (by omega) h
  have h2 : p ^ 12 ≤ 13841287201 := by rcases prime_cases hp with rfl | rfl | rfl | rfl <;> decide
  omega
def markOf (p T D : Int) : Int := T * p ^ (6 - D).toNat
def ofM (p L X : Int) : Int × Int × Int :=
  let x := X % p ^ (L + 6).toNat
  let dn : Int := if x = 0 then 0 else if (val p x : Int) < 6 then 6 - val p x else 0
  (L, x / p ^ (6 - dn).toNat, dn)
theorem ofM_of {p L X T D : Int} (hp : 2 ≤ p) (hx : X % p ^ (L + 6).toNat = T * p ^ (6 - D).toNat) (hD : 0 ≤ D ∧ D ≤ 6) (hu : D = 0 ∨ ¬ p ∣ T) : ofM p L X = (L, T, D) := by
  unfold ofM
  simp only [hx]
  have hpow : ∀ j : Nat, p ^ j ≠ 0 := fun j => Int.pow_ne_zero (by omega)
  by_cases h0 : T * p ^ (6 - D).toNat = 0
  · have hT : T = 0 := by
      rcases Int.mul_eq_zero.1 h0 with h | h
      · exact h
      · exact absurd h (hpow _)
    have hD0 : D = 0 := by
      rcases hu with h | h
      · exact h
      · exact absurd (by rw [hT]; exact Int.dvd_zero p) h
    subst hT; subst hD0
    simp
  · rw [if_neg h0]
    have hT : T ≠ 0 := by intro e; rw [e] at h0; simp at h0
    have hv : val p (T * p ^ (6 - D).toNat) = (6 - D).toNat + val p T := by rw [Int.mul_comm]; exact val_pow_mul _ hp hT
    have hdn : (if ((val p (T * p ^ (6 - D).toNat) : Nat) : Int) < 6 then 6 - ((val p (T * p ^ (6 - D).toNat) : Nat) : Int) else 0) = D := by
      rw [hv]
      rcases hu with h | h
      · rw [if_neg (by omega)]; exact h.symm
      · have : val p T = 0 := val_eq hp (u := T) (by simp) h
        rw [this]
        by_cases hd : D = 0
        · rw [if_neg (by omega)]; exact hd.symm
        · rw [if_pos (by omega)]; omega
    rw [hdn, Int.mul_ediv_cancel _ (hpow _)]
theorem ofM_back {p L X : Int} (hp : 2 ≤ p) : (ofM p L X).2.1 * p ^ (6 - (ofM p L X).2.2).toNat = X % p ^ (L + 6).toNat ∧ (0 ≤ (ofM p L X).2.2 ∧ (ofM p L X).2.2 ≤ 6) ∧ ((ofM p L X).2.2 = 0 ∨ ¬ p ∣ (ofM p L X).2.1) := by
  unfold ofM
  simp only
  generalize hx : X % p ^ (L + 6).toNat = x
  by_cases h0 : x = 0
  · rw [if_pos h0]; simp [h0]
  · rw [if_neg h0]
    obtain ⟨u, hu, hn⟩ := val_spec hp h0
    have hpow : ∀ j : Nat, p ^ j ≠ 0 := fun j => Int.pow_ne_zero (by omega)
    by_cases hv : ((val p x : Nat) : Int) < 6
    · rw [if_pos hv]
      have e : (6 - (6 - ((val p x : Nat) : Int))).toNat = val p x := by omega
      rw [e]
      have hq : x / p ^ val p x = u := by
        conv => lhs; lhs; rw [hu]
        exact Int.mul_ediv_cancel_left _ (hpow _)
      rw [hq]
      refine ⟨?_, by omega, .inr hn⟩
      rw [Int.mul_comm]; exact hu.symm
    · rw [if_neg hv]
      refine ⟨?_, by omega, .inl rfl⟩
      have hd : p ^ (6 - (0 : Int)).toNat ∣ x := (val_dvd hp h0 _).2 (by omega)
      exact Int.ediv_mul_cancel hd
theorem ball_parts {p L T D : Int} (h : ballB p L T D = true) : primeB p = true ∧ (-6 ≤ L ∧ L ≤ 6) ∧ (0 ≤ D ∧ D ≤ 6) ∧ (L + D ≤ 0 → T = 0 ∧ D = 0) ∧ (0 < L + D → (0 ≤ T ∧ T < p ^ (L + D).toNat) ∧ (D = 0 ∨ ¬ p ∣ T)) := by
  unfold ballB at h
  simp only [Bool.and_eq_true, decide_eq_true_eq] at h
  obtain ⟨h1, h2, h3, h4⟩ := h
  refine ⟨h1, h2, h3, ?_, ?_⟩
  · intro hn; rw [if_pos hn] at h4; simpa using h4
  · intro hn
    rw [if_neg (by omega)] at h4
    simp only [Bool.and_eq_true, decide_eq_true_eq, Bool.or_eq_true, beq_iff_eq, Bool.not_eq_true', beq_eq_false_iff_ne] at h4
    refine ⟨h4.1, ?_⟩
    rcases h4.2 with h5 | h5
    · exact .inl h5
    · exact .inr (fun hd => h5 (Int.tmod_eq_zero_of_dvd hd))
theorem mark_lt {p L T D : Int} (h : ballB p L T D = true) : 0 ≤ markOf p T D ∧ markOf p T D < p ^ (L + 6).toNat := by
  obtain ⟨hp, hL, hD, h0, h1⟩ := ball_parts h
  have hp2 := prime_lo hp
  unfold markOf
  by_cases hn : L + D ≤ 0
  · rw [(h0 hn).1]
    have := ipow_pos (p := p) (by omega) (L + 6).toNat
    omega
  · obtain ⟨⟨a, b⟩, _⟩ := h1 (by omega)
    have hq := ipow_pos (p := p) (by omega) (6 - D).toNat
    refine ⟨Int.mul_nonneg a (by omega), ?_⟩
    have e : p ^ (L + 6).toNat = p ^ (L + D).toNat * p ^ (6 - D).toNat := by rw [← Int.pow_add]; congr 1; omega
    rw [e]
    exact Int.mul_lt_mul_of_pos_right b (by omega)
theorem ofM_ball {p L X : Int} (hp : primeB p = true) (hL : -6 ≤ L ∧ L ≤ 6) : ballB p L (ofM p L X).2.1 (ofM p L X).2.2 = true := by
  have hp2 := prime_lo hp
  obtain ⟨hx, hD, hu⟩ := ofM_back (p := p) (L := L) (X := X) hp2
  have hpos := ipow_pos (p := p) (by omega) (L + 6).toNat
  have hx0 := Int.emod_nonneg X (show p ^ (L + 6).toNat ≠ 0 by omega)
  have hx1 := Int.emod_lt_of_pos X (show 0 < p ^ (L + 6).toNat by omega)
  generalize (ofM p L X).2.1 = T at *
  generalize (ofM p L X).2.2 = D at *
  have hq := ipow_pos (p := p) (by omega) (6 - D).toNat
  rw [← hx] at hx0 hx1
  have hT0 : 0 ≤ T := by
    rcases Int.lt_or_le T 0 with h | h
    · have := Int.mul_neg_of_neg_of_pos h (show 0 < p ^ (6 - D).toNat by omega); omega
    · exact h
  unfold ballB
  rw [hp, decide_eq_true hL, decide_eq_true hD, Bool.true_and, Bool.true_and, Bool.true_and]
  by_cases hn : L + D ≤ 0
  · rw [if_pos hn]
    have hT : T = 0 := by
      rcases Int.lt_or_eq_of_le hT0 with h | h
      · exfalso
        have e : p ^ (6 - D).toNat = p ^ (L + 6).toNat * p ^ (-(L + D)).toNat := by rw [← Int.pow_add]; congr 1; omega
        have h2 := ipow_pos (p := p) (by omega) (-(L + D)).toNat
        have h3 : p ^ (L + 6).toNat * 1 ≤ p ^ (L + 6).toNat * p ^ (-(L + D)).toNat := Int.mul_le_mul_of_nonneg_left (by omega) (by omega)
        have h4 : 1 * p ^ (6 - D).toNat ≤ T * p ^ (6 - D).toNat := Int.mul_le_mul_of_nonneg_right (by omega) (by omega)
        omega
      · exact h.symm
    have hD0 : D = 0 := by
      rcases hu with h | h
      · exact h
      · exact absurd (by rw [hT]; exact Int.dvd_zero p) h
    simp [hT, hD0]
  · rw [if_neg hn]
    have hlt : T < p ^ (L + D).toNat := by
      have e : p ^ (L + 6).toNat = p ^ (L + D).toNat * p ^ (6 - D).toNat := by rw [← Int.pow_add]; congr 1; omega
      rw [e] at hx1
      exact Int.lt_of_mul_lt_mul_right hx1 (by omega)
    rw [decide_eq_true (show 0 ≤ T ∧ T < p ^ (L + D).toNat from ⟨hT0, hlt⟩), Bool.true_and]
    rcases hu with h | h
    · simp [h]
    · have : (Int.tmod T p == 0) = false := beq_eq_false_iff_ne.2 (fun e => h (Int.dvd_of_tmod_eq_zero e))
      simp [this]
theorem ball_num {p L T D : Int} (h : ballB p L T D = true) : 0 ≤ T ∧ T ≤ 13841287201 := by
  obtain ⟨hp, hL, hD, h0, h1⟩ := ball_parts h
  have hp2 := prime_lo hp
  by_cases hn : L + D ≤ 0
  · rw [(h0 hn).1]; omega
  · have := (h1 (by omega)).1
    have := pow_13 hp (L + D).toNat (by omega)
    omega

theorem impl_power_l (p N : Int) (hN : N ≤ 9223372036854775807) (n : Nat) : ∀ (acc i : Int), 0 ≤ i → (i + n = N ∨ (n = 0 ∧ N ≤ i)) → Ev (fun k => impl_power.l0 k p acc N i) (powW p n acc) := by
  induction n with
  | zero =>
    intro acc i hi hx
    exact Ev.step (f := fun _ => some acc) (fun k => by simp only [impl_power.l0]; rw [if_neg (by omega)]) (Ev.now _)
  | succ n ih =>
    intro acc i hi hx
    exact Ev.step (f := fun k => impl_power.l0 k p (wrap64 (acc * p)) N (i + 1)) (fun k => by
      simp only [impl_power.l0]; rw [if_pos (by omega), show wrap64 (i + 1) = i + 1 from wid (by omega) (by omega)]) (ih _ (i + 1) (by omega) (by omega))
theorem impl_power_ev (p x : Int) (h : x ≤ 9223372036854775807) : Ev (fun k => impl_power.f k p x) (powW p x.toNat 1) := by
  refine Ev.congr (f := fun k => impl_power.l0 k p 1 x 0) (fun k => rfl) (impl_power_l p x h x.toNat 1 0 (by omega) (by omega))

theorem impl_mark_ev {p L T D : Int} (h : ballB p L T D = true) : Ev (fun k => impl_mark.f k p L T D) (markOf p T D) := by
  obtain ⟨hp, hL, hD, _, _⟩ := ball_parts h
  have hp2 := prime_lo hp
  obtain ⟨m0, m1⟩ := mark_lt h
  have m2 := pow_13 hp (L + 6).toNat (by omega)
  unfold impl_mark.f
  rw [wid (n := 6 - D) (by omega) (by omega)]
  refine Ev.bind (impl_power_ev p _ (by omega)) ?_
  rw [powW_prime hp _ (by omega), show T * p ^ (6 - D).toNat = markOf p T D from rfl, wid (by omega) (by omega)]
  exact Ev.now _

theorem spec_l01Power_l (p : Int) (n : Nat) : ∀ (x acc : Int), (n : Int) ≤ 9223372036854775807 → (x = n ∨ (n = 0 ∧ x ≤ 0)) → Ev (fun k => spec_l01Power.l0 k p x acc) (powW p n acc) := by
  induction n with
  | zero =>
    intro x acc _ hx
    exact Ev.step (f := fun _ => some acc) (fun k => by simp only [spec_l01Power.l0]; rw [if_neg (by omega)]) (Ev.now _)
  | succ n ih =>
    intro x acc hn hx
    have hx' : x = n + 1 := by omega
    exact Ev.step (f := fun k => spec_l01Power.l0 k p n (wrap64 (acc * p))) (fun k => by
      simp only [spec_l01Power.l0]; rw [if_pos (by omega), show wrap64 (x - 1) = (n : Int) from by rw [hx', wid (by omega) (by omega)]; omega]) (ih n _ (by omega) (.inl rfl))
theorem spec_l01Power_ev (p x : Int) (h : x ≤ 9223372036854775807) : Ev (fun k => spec_l01Power.f k p x) (powW p x.toNat 1) := by
  refine Ev.congr (f := fun k => spec_l01Power.l0 k p x 1) (fun k => rfl) (spec_l01Power_l p x.toNat x 1 (by omega) (by omega))

theorem spec_l01Val_l (p : Int) (hp : 2 ≤ p) (v : Nat) : ∀ (n u acc : Int), n = p ^ v * u → ¬ p ∣ u → n ≠ 0 → -4611686018427387904 ≤ n → n ≤ 4611686018427387904 → 0 ≤ acc → acc + v ≤ 4611686018427387904 → Ev (fun k => spec_l01Val.l0 k p n acc) (acc + v) := by
  induction v with
  | zero =>
    intro n u acc h hu h0 h1 h2 h3 h4
    refine Ev.step (f := fun _ => some acc) (fun k => ?_) (by simp; exact Ev.now _)
    simp only [spec_l01Val.l0]
    rw [if_neg (by omega), if_neg]
    intro e
    rw [h] at e
    exact hu (by simpa using Int.dvd_of_tmod_eq_zero e)
  | succ v ih =>
    intro n u acc h hu h0 h1 h2 h3 h4
    have hn : n = p * (p ^ v * u) := by rw [h, Int.pow_succ', Int.mul_assoc]
    have hm : Int.tmod n p = 0 := by rw [hn]; exact Int.mul_tmod_right p _
    have hd : Int.tdiv n p = p ^ v * u := by rw [hn]; exact Int.mul_tdiv_cancel_left _ (by omega)
    have hb := tdiv_bdv p (show -4611686018427387904 ≤ n ∧ n ≤ 4611686018427387904 from ⟨h1, h2⟩)
    have hne : p ^ v * u ≠ 0 := by intro e; rw [e] at hn; simp at hn; exact h0 hn
    refine Ev.step (f := fun k => spec_l01Val.l0 k p (p ^ v * u) (acc + 1)) (fun k => ?_) ?_
    · simp only [spec_l01Val.l0]
      rw [if_neg (by omega), if_pos hm, hd]
      rw [hd] at hb
      rw [wid (n := p ^ v * u) (by omega) (by omega), wid (n := acc + 1) (by omega) (by omega)]
    · rw [hd] at hb
      have := ih (p ^ v * u) u (acc + 1) rfl hu hne hb.1 hb.2 (by omega) (by omega)
      rw [show acc + ((v + 1 : Nat) : Int) = acc + 1 + (v : Int) from by omega]
      exact this
theorem spec_l01Val_ev {p n : Int} (hp : 2 ≤ p) (h0 : n ≠ 0) (h1 : -4611686018427387904 ≤ n) (h2 : n ≤ 4611686018427387904) : Ev (fun k => spec_l01Val.f k p n) (val p n : Int) := by
  obtain ⟨u, h, hu⟩ := val_spec hp h0
  have hv := val_le_of_lt hp h0 63 (by omega)
  have := spec_l01Val_l p hp (val p n) n u 0 h hu h0 h1 h2 (by omega) (by omega)
  rw [Int.zero_add] at this
  unfold spec_l01Val.f
  exact this

theorem tmod_cast {a m : Int} (h : 0 ≤ a) : Int.tmod a m = a % m := Int.tmod_eq_emod_of_nonneg h
theorem tdiv_cast {a m : Int} (h : 0 ≤ a) : Int.tdiv a m = a / m := Int.tdiv_eq_ediv_of_nonneg h
theorem tmod_lt' {a m : Int} (hm : 0 < m) : -m < Int.tmod a m ∧ Int.tmod a m < m := by
  have h1 := Int.natAbs_tmod a m
  have h2 := Nat.mod_lt a.natAbs (show 0 < m.natAbs by omega)
  omega
theorem emod_mul_emod' (a b m : Int) : a % m * b % m = a * b % m := by rw [Int.mul_emod (a % m) b m, Int.emod_emod, ← Int.mul_emod]
theorem modW {a m : Int} (hm : 1 ≤ m) (hm2 : m ≤ 2305843009213693952) : Int.tmod (wrap64 (Int.tmod a m + m)) m = a % m := by
  obtain ⟨h1, h2⟩ := tmod_lt' (a := a) (show 0 < m by omega)
  rw [wid (by omega) (by omega), tmod_cast (by omega), Int.add_emod_right]
  have e := Int.tmod_add_mul_tdiv a m
  conv => rhs; rw [← e, Int.add_mul_emod_self_left]

theorem spec_l01MulMod_eq {a b m : Int} (hm : 1 ≤ m) (hm2 : m ≤ 100000000000) : spec_l01MulMod.f a b m = some (a * b % m) := by
  unfold spec_l01MulMod.f
  rw [if_neg (by omega), modW hm (by omega), modW hm (by omega)]
  have a0 := Int.emod_nonneg a (show m ≠ 0 by omega)
  have a1 := Int.emod_lt_of_pos a (show 0 < m by omega)
  have b0 := Int.emod_nonneg b (show m ≠ 0 by omega)
  have b1 := Int.emod_lt_of_pos b (show 0 < m by omega)
  have hab : a * b % m = (a % m) * (b % m) % m := Int.mul_emod a b m
  rw [hab]
  generalize a % m = x at *
  generalize b % m = y at *
  rw [tdiv_cast b0, tmod_cast b0]
  have q0 : 0 ≤ y / 1000000 := by omega
  have q1 : y / 1000000 ≤ 100000 := by omega
  have r0 : 0 ≤ y % 1000000 := by omega
  have r1 : y % 1000000 ≤ 1000000 := by omega
  have p0 : 0 ≤ x * (y / 1000000) := Int.mul_nonneg a0 q0
  have p1 : x * (y / 1000000) ≤ 100000000000 * 100000 := Int.mul_le_mul (by omega) q1 q0 (by omega)
  have s0 : 0 ≤ x * (y % 1000000) := Int.mul_nonneg a0 r0
  have s1 : x * (y % 1000000) ≤ 100000000000 * 1000000 := Int.mul_le_mul (by omega) r1 r0 (by omega)
  rw [wid (n := y / 1000000) (by omega) (by omega), wid (n := x * (y / 1000000)) (by omega) (by omega), wid (n := x * (y % 1000000)) (by omega) (by omega), tmod_cast p0, tmod_cast s0]
  have t0 := Int.emod_nonneg (x * (y / 1000000)) (show m ≠ 0 by omega)
  have t1 := Int.emod_lt_of_pos (x * (y / 1000000)) (show 0 < m by omega)
  rw [wid (n := x * (y / 1000000) % m * 1000000) (by omega) (by omega), tmod_cast (a := x * (y / 1000000) % m * 1000000) (by omega)]
  have u0 := Int.emod_nonneg (x * (y / 1000000) % m * 1000000) (show m ≠ 0 by omega)
  have u1 := Int.emod_lt_of_pos (x * (y / 1000000) % m * 1000000) (show 0 < m by omega)
  have v0 := Int.emod_nonneg (x * (y % 1000000)) (show m ≠ 0 by omega)
  have v1 := Int.emod_lt_of_pos (x * (y % 1000000)) (show 0 < m by omega)
  rw [wid (n := x * (y / 1000000) % m * 1000000 % m + x * (y % 1000000) % m) (by omega) (by omega), tmod_cast (a := x * (y / 1000000) % m * 1000000 % m + x * (y % 1000000) % m) (by omega)]
  congr 1
  have e1 : x * (y / 1000000) % m * 1000000 % m = x * (y / 1000000) * 1000000 % m := by rw [emod_mul_emod']
  rw [e1, ← Int.add_emod]
  congr 1
  rw [Int.mul_assoc, ← Int.mul_add]
  congr 1
  omega

theorem spec_l01InvMod_one {m : Int} (hm : 2 ≤ m) (hm2 : m ≤ 100000000000) : Ev (fun k => spec_l01InvMod.f k 1 m) 1 := by
  have h1 : Int.tmod (wrap64 (Int.tmod 1 m + m)) m = 1 := by rw [modW (by omega) (by omega)]; exact Int.emod_eq_of_lt (by omega) (by omega)
  refine Ev.congr (f := fun k => spec_l01InvMod.l0 k m 1 m 1 0) (fun k => by unfold spec_l01InvMod.f; rw [if_neg (by omega), h1]) ?_
  have q0 : Int.tdiv 1 m = 0 := by rw [tdiv_cast (by omega)]; exact Int.ediv_eq_zero_of_lt (by omega) (by omega)
  have q1 : Int.tdiv m 1 = m := Int.tdiv_one m
  have z0 : wrap64 0 = 0 := wid (by omega) (by omega)
  have z1 : wrap64 1 = 1 := wid (by omega) (by omega)
  refine Ev.step (f := fun k => spec_l01InvMod.l0 k m m 1 0 1) (fun k => ?_) ?_
  · simp only [spec_l01InvMod.l0]
    rw [if_neg (by omega), q0, z0, Int.zero_mul, z0, Int.sub_zero, z1, Int.mul_zero, z0, Int.sub_zero, z1]
  refine Ev.step (f := fun k => spec_l01InvMod.l0 k m 1 0 1 (-m)) (fun k => ?_) ?_
  · simp only [spec_l01InvMod.l0]
    rw [if_neg (by omega), q1, wid (n := m) (by omega) (by omega), Int.mul_one, wid (n := m) (by omega) (by omega), Int.sub_self, z0, Int.zero_sub, wid (n := -m) (by omega) (by omega)]
  refine Ev.step (f := fun _ => some 1) (fun k => ?_) (Ev.now _)
  simp only [spec_l01InvMod.l0]
  rw [if_pos trivial, if_neg (by omega), h1]

theorem In_eq (a b c : Int) : spec_l01In.f a b c = some (decide (b ≤ a ∧ a ≤ c)) := by
  unfold spec_l01In.f
  by_cases h : a ≥ b
  · rw [if_pos h]; congr 1; exact decide_eq_decide.2 ⟨fun h2 => ⟨h, h2⟩, fun h2 => h2.2⟩
  · rw [if_neg h]; congr 1; exact (decide_eq_false (fun h2 => h h2.1)).symm

theorem mx_eq (a b : Int) : mx a b = if a < b then b else a := rfl
theorem spec_l01Of_pow {p num L : Int} (D : Nat) (hp : primeB p = true) (hD : D ≤ 6) (h1 : -1152921504606846976 ≤ num) (h2 : num ≤ 1152921504606846976) (hL : -6 ≤ L ∧ L ≤ 6) :
    Ev (fun k => spec_l01Of.f k p num (p ^ D) L) ((ofM p L (num * p ^ (6 - D))).1, (ofM p L (num * p ^ (6 - D))).2.1, (ofM p L (num * p ^ (6 - D))).2.2, true) := by
  have hp2 := prime_lo hp
  have hpow : ∀ j : Nat, p ^ j ≠ 0 := fun j => Int.pow_ne_zero (by omega)
  have hpD := pow_13 hp D (by omega)
  have hpD1 := ipow_pos (p := p) (by omega) D
  unfold spec_l01Of.f
  refine Ev.bindv (In_eq _ _ _) ?_
  rw [decide_eq_true hL]
  simp only [if_true]
  by_cases h0 : num = 0
  · simp only [if_pos h0]
    have e : ofM p L (num * p ^ (6 - D)) = (L, 0, 0) := by
      rw [h0, Int.zero_mul]; exact ofM_of hp2 (by simp) (by omega) (.inl rfl)
    rw [e]; exact Ev.now _
  simp only [if_neg h0]
  have hvD : val p (p ^ D) = D := val_eq hp2 (u := 1) (by simp) (fun h => by have := Int.le_of_dvd (by omega) h; omega)
  have hv60 := val_le_of_lt hp2 h0 61 (by omega)
  refine Ev.bind (spec_l01Val_ev hp2 h0 (by omega) (by omega)) (Ev.bind (spec_l01Val_ev hp2 (hpow D) (by omega) (by omega)) ?_)
  rw [hvD]
  obtain ⟨u, hu, hn⟩ := val_spec hp2 h0
  generalize hv : val p num = v at *
  rw [wid (n := (v : Int) - (D : Int)) (by omega) (by omega), wid (n := (D : Int) - (v : Int)) (by omega) (by omega)]
  have hX : num * p ^ (6 - D) = p ^ (v + (6 - D)) * u := by
    rw [hu, Int.pow_add, Int.mul_assoc, Int.mul_assoc, Int.mul_comm u]
  by_cases hle : L ≤ (v : Int) - (D : Int)
  · simp only [if_pos hle]
    have e : ofM p L (num * p ^ (6 - D)) = (L, 0, 0) := by
      refine ofM_of hp2 ?_ (by omega) (.inl rfl)
      rw [hX, Int.zero_mul, show v + (6 - D) = (L + 6).toNat + (v + (6 - D) - (L + 6).toNat) from by omega, Int.pow_add, Int.mul_assoc]
      exact Int.mul_emod_right _ _
    rw [e]; exact Ev.now _
  simp only [if_neg hle]
  obtain ⟨dn, hdn⟩ : ∃ dn : Nat, (dn : Int) = mx ((D : Int) - (v : Int)) 0 := ⟨D - v, by rw [mx_eq]; split <;> omega⟩
  have hdn2 : (dn : Int) = if (D : Int) - v < 0 then 0 else (D : Int) - v := by rw [hdn, mx_eq]
  rw [← hdn]
  have hdn6 : dn ≤ D := by split at hdn2 <;> omega
  have hmp : 1 ≤ L + dn := by split at hdn2 <;> omega
  have hmp2 : (L + dn).toNat ≤ 12 := by omega
  simp only [if_neg (show ¬ (dn : Int) > 6 by omega)]
  rw [wid (n := L + (dn : Int)) (by omega) (by omega)]
  refine Ev.bind (spec_l01Power_ev p (L + dn) (by omega)) ?_
  rw [powW_prime hp _ (by omega)]
  have hu0 : u ≠ 0 := by intro e; rw [e] at hn; exact hn (Int.dvd_zero p)
  have hpv1 := ipow_pos (p := p) (by omega) v
  have hpv : p ^ v ≤ 1152921504606846976 := by
    have : num.natAbs = (p ^ v).natAbs * u.natAbs := by rw [← Int.natAbs_mul, ← hu]
    have h3 : (p ^ v).natAbs * 1 ≤ (p ^ v).natAbs * u.natAbs := Nat.mul_le_mul_left _ (by omega)
    omega
  have hub : -1152921504606846976 ≤ u ∧ u ≤ 1152921504606846976 := by
    have : num.natAbs = (p ^ v).natAbs * u.natAbs := by rw [← Int.natAbs_mul, ← hu]
    have h3 : 1 * u.natAbs ≤ (p ^ v).natAbs * u.natAbs := Nat.mul_le_mul_right _ (by omega)
    omega
  have pv : powW p v 1 = p ^ v := by rw [powW_fit p (by omega) v 1 (by omega) (by omega), Int.one_mul]
  refine Ev.bind (spec_l01Power_ev p v (by omega)) ?_
  rw [Int.toNat_natCast, pv]
  simp only [if_neg (hpow v)]
  refine Ev.bind (spec_l01Power_ev p D (by omega)) ?_
  rw [Int.toNat_natCast, powW_prime hp D (by omega)]
  simp only [if_neg (hpow D)]
  rw [Int.tdiv_self (hpow D), show wrap64 1 = 1 from wid (by omega) (by omega)]
  have hm1 : p ^ (L + (dn : Int)).toNat ≤ 13841287201 := pow_13 hp _ hmp2
  have hm0 : 2 ≤ p ^ (L + (dn : Int)).toNat := by
    have := ipow_mono (p := p) (by omega) (show 1 ≤ (L + (dn : Int)).toNat by omega)
    rw [Int.pow_one] at this; omega
  refine Ev.bind (spec_l01InvMod_one hm0 (by omega)) ?_
  have hq : Int.tdiv num (p ^ v) = u := by
    conv => lhs; lhs; rw [hu]
    exact Int.mul_tdiv_cancel_left _ (hpow v)
  rw [hq, wid (n := u) (by omega) (by omega)]
  refine Ev.bindv (spec_l01MulMod_eq (by omega) (by omega)) ?_
  rw [Int.mul_one]
  obtain ⟨e, he⟩ : ∃ e : Nat, (e : Int) = mx ((v : Int) - (D : Int)) 0 := ⟨v - D, by rw [mx_eq]; split <;> omega⟩
  have he2 : (e : Int) = if (v : Int) - D < 0 then 0 else (v : Int) - D := by rw [he, mx_eq]
  rw [← he]
  have hev : e ≤ v := by split at he2 <;> omega
  have hpe : p ^ e ≤ p ^ v := ipow_mono (by omega) hev
  refine Ev.bind (spec_l01Power_ev p e (by omega)) ?_
  rw [Int.toNat_natCast, powW_fit p (by omega) e 1 (by omega) (by omega), Int.one_mul]
  refine Ev.bindv (spec_l01MulMod_eq (by omega) (by omega)) ?_
  have hT : u % p ^ (L + (dn : Int)).toNat * p ^ e % p ^ (L + (dn : Int)).toNat = u * p ^ e % p ^ (L + (dn : Int)).toNat := by rw [emod_mul_emod']
  rw [hT]
  have hexp : v + (6 - D) = (6 - (dn : Int)).toNat + e := by split at hdn2 <;> split at he2 <;> omega
  have hexp2 : (L + 6).toNat = (6 - (dn : Int)).toNat + (L + (dn : Int)).toNat := by omega
  have key : ofM p L (num * p ^ (6 - D)) = (L, u * p ^ e % p ^ (L + (dn : Int)).toNat, (dn : Int)) := by
    refine ofM_of hp2 ?_ (by omega) ?_
    · rw [hX, hexp, hexp2, Int.pow_add, Int.pow_add, Int.mul_assoc, Int.mul_emod_mul_of_pos _ _ (Int.lt_of_lt_of_le (by omega) (ipow_pos (p := p) (by omega) _)), Int.mul_comm (p ^ e) u, Int.mul_comm]
    · by_cases hz : dn = 0
      · left; omega
      · right
        have e0 : e = 0 := by split at hdn2 <;> split at he2 <;> omega
        rw [e0, Int.pow_zero, Int.mul_one]
        intro hd
        apply hn
        have hpm : p ∣ p ^ (L + (dn : Int)).toNat := by
          obtain ⟨j, hj⟩ : ∃ j, (L + (dn : Int)).toNat = j + 1 := ⟨(L + (dn : Int)).toNat - 1, by omega⟩
          rw [hj, Int.pow_succ']; exact Int.dvd_mul_right _ _
        have := Int.dvd_add hd (Int.dvd_trans hpm (Int.dvd_mul_right (p ^ (L + (dn : Int)).toNat) (u / p ^ (L + (dn : Int)).toNat)))
        rwa [Int.emod_add_mul_ediv] at this
  rw [key]
  exact Ev.now _
theorem spec_l01Prime_eq (p : Int) : spec_l01Prime.f p = some (primeB p) := by
  unfold spec_l01Prime.f primeB
  by_cases h2 : p = 2
  · simp [h2]
  · by_cases h3 : p = 3
    · simp [h3]
    · by_cases h5 : p = 5
      · simp [h5]
      · rw [if_neg h2, if_neg h3, if_neg h5, beq_eq_false_iff_ne.2 h2, beq_eq_false_iff_ne.2 h3, beq_eq_false_iff_ne.2 h5]; rfl

theorem spec_l01Is_ev (p L T D : Int) : Ev (fun k => spec_l01Is.f k p L T D) (ballB p L T D) := by
  have hno : Ev (fun k => spec_l01Is.j0 k p true L T D) false := Ev.step (f := fun _ => some false) (fun k => by simp only [spec_l01Is.j0, if_true]) (Ev.now _)
  unfold spec_l01Is.f
  refine Ev.bindv (spec_l01Prime_eq p) ?_
  unfold ballB
  cases hp : primeB p with
  | false => simpa using hno
  | true =>
    have hp2 := prime_lo hp
    simp only [if_true, Bool.true_and]
    refine Ev.bindv (In_eq L (-6) 6) ?_
    by_cases hL : -6 ≤ L ∧ L ≤ 6
    · rw [decide_eq_true hL]; simp only [if_true, Bool.true_and]
      refine Ev.bindv (In_eq D 0 6) ?_
      by_cases hD : 0 ≤ D ∧ D ≤ 6
      · rw [decide_eq_true hD]; simp only [Bool.not_true, Bool.true_and]
        have hn := wid (n := L + D) (by omega) (by omega)
        by_cases h0 : L + D ≤ 0
        · rw [if_pos h0]
          refine Ev.step (f := fun _ => some (T == 0 && D == 0)) (fun k => ?_) (Ev.now _)
          simp only [spec_l01Is.j0]
          rw [if_neg (by decide), hn, if_pos h0]
          by_cases hT : T = 0
          · simp [hT]
          · simp [hT]
        · rw [if_neg h0]
          refine Ev.step (f := fun k => (spec_l01Power.f k p (L + D)).bind fun t => (spec_l01In.f T 0 (wrap64 (t - 1))).bind fun t2 => if t2 = true then (if D = 0 then some true else if p = 0 then none else some (Int.tmod T p != 0)) else some false) (fun k => by simp only [spec_l01Is.j0]; rw [if_neg (by decide), hn, if_neg h0]) ?_
          refine Ev.bind (spec_l01Power_ev p (L + D) (by omega)) ?_
          rw [powW_prime hp _ (by omega)]
          have hpp := ipow_pos (p := p) (by omega) (L + D).toNat
          have hpt := pow_le_top hp (L + D).toNat (by omega)
          rw [wid (n := p ^ (L + D).toNat - 1) (by omega) (by omega)]
          refine Ev.bindv (In_eq _ _ _) ?_
          rw [show decide (0 ≤ T ∧ T ≤ p ^ (L + D).toNat - 1) = decide (0 ≤ T ∧ T < p ^ (L + D).toNat) from decide_eq_decide.2 (by omega)]
          cases decide (0 ≤ T ∧ T < p ^ (L + D).toNat) with
          | false => simp only [Bool.false_eq_true, if_false, Bool.false_and]; exact Ev.now _
          | true =>
            simp only [if_true, Bool.true_and]
            by_cases hd : D = 0
            · simp only [hd, if_true]; simp; exact Ev.now _
            · rw [if_neg hd, if_neg (by omega), show (D == 0) = false from beq_eq_false_iff_ne.2 hd, Bool.false_or]
              exact Ev.now _
      · rw [decide_eq_false hD]; simpa using hno
    · rw [decide_eq_false hL]; simpa using hno

theorem rd_nat (l : List Int) (j : Nat) (h : j < l.length) : rd l (j : Int) = l[j] := by
  unfold rd; rw [Int.toNat_natCast, List.getD_eq_getElem?_getD, List.getElem?_eq_getElem h]; rfl
theorem copy_ev {α : Type} (g : Nat → List α → Int → Option (List α)) (src : List α) (get : Int → α)
    (hstep : ∀ k (dst : List α) (i : Nat), i < src.length → dst.length = src.length → g (k + 1) dst i = g k (dst.set i (get i)) ((i : Int) + 1))
    (hend : ∀ k (dst : List α) (i : Nat), src.length ≤ i → dst.length = src.length → g (k + 1) dst i = some dst)
    (hget : ∀ (i : Nat) (h : i < src.length), get i = src[i]) (dst : List α) (hd : dst.length = src.length) : Ev (fun k => g k dst 0) src := by
  have key : ∀ (n i : Nat) (dst : List α), i + n = src.length → dst.length = src.length → (∀ (j : Nat) (h : j < src.length), j < i → dst[j]? = some src[j]) → Ev (fun k => g k dst i) src := by
    intro n
    induction n with
    | zero =>
      intro i dst hi hl hp
      refine Ev.step (f := fun _ => some dst) (fun k => hend k dst i (by omega) hl) ?_
      have e : dst = src := by
        refine List.ext_getElem? fun j => ?_
        by_cases h : j < src.length
        · rw [hp j h (by omega), List.getElem?_eq_getElem h]
        · rw [List.getElem?_eq_none (by omega), List.getElem?_eq_none (by omega)]
      rw [e]; exact Ev.now _
    | succ n ih =>
      intro i dst hi hl hp
      refine Ev.step (f := fun k => g k (dst.set i (get i)) ((i + 1 : Nat) : Int)) (fun k => ?_) (ih (i + 1) _ (by omega) (by rw [List.length_set]; exact hl) ?_)
      · rw [hstep k dst i (by omega) hl]; rfl
      · intro j h hj
        by_cases e : j = i
        · subst e
          rw [List.getElem?_set_self (by omega), hget j h]
        · rw [List.getElem?_set_ne (by omega)]; exact hp j h (by omega)
  exact key src.length 0 dst (by omega) hd (fun j h hj => by omega)
theorem all_ev {β : Type} (g : Nat → Int → Option β) (n : Nat) (p : Nat → Bool) (yes no : β)
    (hstep : ∀ (i : Nat), i < n → p i = true → Ev (fun k => g k ((i : Int) + 1)) yes → Ev (fun k => g k i) yes)
    (hstepno : ∀ (i : Nat), i < n → p i = true → Ev (fun k => g k ((i : Int) + 1)) no → Ev (fun k => g k i) no)
    (hno : ∀ (i : Nat), i < n → p i = false → Ev (fun k => g k i) no)
    (hend : Ev (fun k => g k n) yes) : Ev (fun k => g k 0) (if (List.range n).all p then yes else no) := by
  have key : ∀ (d i : Nat), i + d = n → Ev (fun k => g k i) (if (List.range' i d).all p then yes else no) := by
    intro d
    induction d with
    | zero => intro i hi; have : i = n := by omega
              subst this; simpa using hend
    | succ d ih =>
      intro i hi
      have h := ih (i + 1) (by omega)
      rw [List.range'_succ, List.all_cons]
      cases e : p i with
      | false => simpa using hno i (by omega) e
      | true =>
        rw [Bool.true_and]
        have e1 : (((i + 1 : Nat) : Int)) = (i : Int) + 1 := by omega
        rw [e1] at h
        cases e2 : (List.range' (i + 1) d).all p with
        | true => rw [e2] at h; exact hstep i (by omega) e h
        | false => rw [e2] at h; exact hstepno i (by omega) e h
  have := key n 0 (by omega)
  rw [← List.range_eq_range'] at this
  exact this
theorem all_range_rd (l : List Int) (q : Int → Bool) : (List.range l.length).all (fun i => q (rd l (i : Int))) = l.all q := by
  rw [Bool.eq_iff_iff]
  simp only [List.all_eq_true, List.mem_range]
  constructor
  · intro h x hx
    obtain ⟨i, hi, rfl⟩ := List.mem_iff_getElem.1 hx
    have := h i hi
    rwa [rd_nat l i hi] at this
  · intro h i hi
    rw [rd_nat l i hi]
    exact h _ (List.getElem_mem hi)
theorem all_range_getD {α : Type} (l : List α) (d : α) (q : α → Bool) : (List.range l.length).all (fun i => q (l.getD i d)) = l.all q := by
  rw [Bool.eq_iff_iff]
  simp only [List.all_eq_true, List.mem_range]
  constructor
  · intro h x hx
    obtain ⟨i, hi, rfl⟩ := List.mem_iff_getElem.1 hx
    have := h i hi
    rwa [List.getD_eq_getElem?_getD, List.getElem?_eq_getElem hi] at this
  · intro h i hi
    rw [List.getD_eq_getElem?_getD, List.getElem?_eq_getElem hi]
    exact h _ (List.getElem_mem hi)
theorem all_ev' {β : Type} (g : Nat → Int → Option β) (n : Nat) (p : Nat → Bool) (yes no : β)
    (hstep : ∀ (i : Nat) (r : β), i < n → p i = true → Ev (fun k => g k ((i : Int) + 1)) r → Ev (fun k => g k i) r)
    (hno : ∀ (i : Nat), i < n → p i = false → Ev (fun k => g k i) no)
    (hend : Ev (fun k => g k n) yes) : Ev (fun k => g k 0) (if (List.range n).all p then yes else no) :=
  all_ev g n p yes no (fun i hi hp h => hstep i yes hi hp h) (fun i hi hp h => hstep i no hi hp h) hno hend
theorem ite_tf (b : Bool) : (if b then true else false) = b := by cases b <;> rfl
def codeB (p : Int) (l : List S25) : Bool := primeB p && l.all (fun b => ballB p b.f0 b.f1 b.f2)
theorem spec_l01Code_ev (p : Int) (l : List S25) (hl : l.length ≤ 4611686018427387904) : Ev (fun k => spec_l01Code.f k p l) (if codeB p l then 0 else 1) := by
  unfold spec_l01Code.f codeB
  refine Ev.bindv (spec_l01Prime_eq p) ?_
  cases hp : primeB p with
  | false => simp; exact Ev.now _
  | true =>
    simp only [if_true, Bool.true_and]
    rw [← all_range_getD l z25]
    refine all_ev' (fun k i => spec_l01Code.l0 k p l i) l.length (fun i => ballB p (l.getD i z25).f0 (l.getD i z25).f1 (l.getD i z25).f2) 0 1 ?_ ?_ ?_
    · intro i r hi hb hr
      refine Ev.step (f := fun k => (spec_l01Is.f k p (l.getD i z25).f0 (l.getD i z25).f1 (l.getD i z25).f2).bind fun t => if t = true then spec_l01Code.l0 k p l ((i : Int) + 1) else some 1) (fun k => ?_) ?_
      · simp only [spec_l01Code.l0]
        rw [if_pos (by omega), if_pos (by omega), wid (by omega) (by omega)]; rfl
      · refine Ev.bind (spec_l01Is_ev _ _ _ _) ?_
        rw [hb]; simpa using hr
    · intro i hi hb
      refine Ev.step (f := fun k => (spec_l01Is.f k p (l.getD i z25).f0 (l.getD i z25).f1 (l.getD i z25).f2).bind fun t => if t = true then spec_l01Code.l0 k p l ((i : Int) + 1) else some 1) (fun k => ?_) ?_
      · simp only [spec_l01Code.l0]
        rw [if_pos (by omega), if_pos (by omega), wid (by omega) (by omega)]; rfl
      · refine Ev.bind (spec_l01Is_ev _ _ _ _) ?_
        rw [hb]; simp; exact Ev.now _
    · exact Ev.step (f := fun _ => some 0) (fun k => by simp only [spec_l01Code.l0]; rw [if_neg (by omega)]) (Ev.now _)

theorem impl_within_ev (m : Int) (l : List Int) (hm : 0 ≤ m) (hm2 : m ≤ 4611686018427387904) (hl : l.length ≤ 4611686018427387904) : Ev (fun k => impl_within.f k m l) (l.all (fun x => decide (-m ≤ x ∧ x ≤ m))) := by
  unfold impl_within.f
  rw [← ite_tf (l.all _), ← all_range_rd]
  have w : wrap64 (-m) = -m := wid (by omega) (by omega)
  refine all_ev' (fun k i => impl_within.l0 k m l l.length i) l.length (fun i => decide (-m ≤ rd l (i : Int) ∧ rd l (i : Int) ≤ m)) true false ?_ ?_ ?_
  · intro i r hi hp hr
    have hp := of_decide_eq_true hp
    refine Ev.step (f := fun k => impl_within.l0 k m l l.length ((i : Int) + 1)) (fun k => ?_) hr
    simp only [impl_within.l0]
    rw [if_pos (by omega), if_pos (by omega), if_pos (by omega), w, if_neg (by omega), if_neg (by omega), wid (by omega) (by omega)]
  · intro i hi hp
    have hp := of_decide_eq_false hp
    refine Ev.step (f := fun _ => some false) (fun k => ?_) (Ev.now _)
    simp only [impl_within.l0]
    rw [if_pos (by omega), if_pos (by omega), if_pos (by omega), w]
    by_cases h : rd l (i : Int) < -m
    · rw [if_pos h]
    · rw [if_neg h, if_pos (by omega)]
  · exact Ev.step (f := fun _ => some true) (fun k => by simp only [impl_within.l0]; rw [if_neg (by omega)]) (Ev.now _)

theorem impl_isPrime_eq (p : Int) : impl_isPrime.f p = some (primeB p) := by
  unfold impl_isPrime.f primeB
  by_cases h2 : p = 2
  · simp [h2]
  · by_cases h3 : p = 3
    · simp [h3]
    · by_cases h5 : p = 5
      · simp [h5]
      · rw [if_neg h2, if_neg h3, if_neg h5, beq_eq_false_iff_ne.2 h2, beq_eq_false_iff_ne.2 h3, beq_eq_false_iff_ne.2 h5]; rfl

theorem impl_isLevel_eq (L : Int) : impl_isLevel.f L = some (decide (-6 ≤ L ∧ L ≤ 6)) := by
  unfold impl_isLevel.f
  by_cases h : L ≥ -6
  · rw [if_pos h]; congr 1; exact decide_eq_decide.2 ⟨fun h2 => ⟨h, h2⟩, fun h2 => h2.2⟩
  · rw [if_neg h]; congr 1; exact (decide_eq_false (fun h2 => h h2.1)).symm

theorem impl_IsBall_ev (p L T D : Int) : Ev (fun k => impl_IsBall.f k p L T D) (ballB p L T D) := by
  have hno : Ev (fun k => impl_IsBall.j0 k p true L T D) false := Ev.step (f := fun _ => some false) (fun k => by simp only [impl_IsBall.j0, if_true]) (Ev.now _)
  unfold impl_IsBall.f
  refine Ev.bindv (impl_isPrime_eq p) ?_
  unfold ballB
  cases hp : primeB p with
  | false => simpa using hno
  | true =>
    have hp2 := prime_lo hp
    simp only [if_true, Bool.true_and]
    refine Ev.bindv (impl_isLevel_eq L) ?_
    by_cases hL : -6 ≤ L ∧ L ≤ 6
    · rw [decide_eq_true hL]; simp only [if_true, Bool.true_and]
      by_cases hD0 : D < 0
      · rw [decide_eq_false (show ¬ (0 ≤ D ∧ D ≤ 6) by omega)]; simp only [if_pos hD0, Bool.false_and]; exact hno
      simp only [if_neg hD0]
      by_cases hD : 0 ≤ D ∧ D ≤ 6
      · rw [decide_eq_true hD, decide_eq_false (show ¬ D > 6 by omega)]; simp only [Bool.true_and]
        have hn := wid (n := L + D) (by omega) (by omega)
        by_cases h0 : L + D ≤ 0
        · rw [if_pos h0]
          refine Ev.step (f := fun _ => some (T == 0 && D == 0)) (fun k => ?_) (Ev.now _)
          simp only [impl_IsBall.j0]
          rw [if_neg (by decide), hn, if_pos h0]
          by_cases hT : T = 0
          · simp [hT]
          · simp [hT]
        · rw [if_neg h0]
          by_cases hT0 : T ≥ 0
          · refine Ev.step (f := fun k => (impl_power.f k p (L + D)).bind fun t => if T < t then (if D = 0 then some true else if p = 0 then none else some (Int.tmod T p != 0)) else some false) (fun k => by simp only [impl_IsBall.j0]; rw [if_neg (by decide), hn, if_neg h0, if_pos hT0]) ?_
            refine Ev.bind (impl_power_ev p (L + D) (by omega)) ?_
            rw [powW_prime hp _ (by omega)]
            by_cases hT1 : T < p ^ (L + D).toNat
            · rw [if_pos hT1, decide_eq_true (show 0 ≤ T ∧ T < p ^ (L + D).toNat from ⟨hT0, hT1⟩), Bool.true_and]
              by_cases hd : D = 0
              · simp only [hd, if_true]; simp; exact Ev.now _
              · rw [if_neg hd, if_neg (by omega), show (D == 0) = false from beq_eq_false_iff_ne.2 hd, Bool.false_or]
                exact Ev.now _
            · rw [if_neg hT1, decide_eq_false (show ¬ (0 ≤ T ∧ T < p ^ (L + D).toNat) from fun h => hT1 h.2), Bool.false_and]
              exact Ev.now _
          · rw [decide_eq_false (show ¬ (0 ≤ T ∧ T < p ^ (L + D).toNat) from fun h => hT0 h.1), Bool.false_and]
            refine Ev.step (f := fun _ => some false) (fun k => ?_) (Ev.now _)
            simp only [impl_IsBall.j0]
            rw [if_neg (by decide), hn, if_neg h0, if_neg hT0]
      · rw [decide_eq_false hD, decide_eq_true (show D > 6 by omega)]; simpa using hno
    · rw [decide_eq_false hL]; simpa using hno

theorem all_evp {β : Type} (g : Nat → Nat → Option β) (n : Nat) (p : Nat → Bool) (yes no : β)
    (hstep : ∀ (i : Nat) (r : β), i < n → (∀ j, j < i → p j = true) → p i = true → Ev (fun k => g k (i + 1)) r → Ev (fun k => g k i) r)
    (hno : ∀ (i : Nat), i < n → (∀ j, j < i → p j = true) → p i = false → Ev (fun k => g k i) no)
    (hend : (∀ j, j < n → p j = true) → Ev (fun k => g k n) yes) : Ev (fun k => g k 0) (if (List.range n).all p then yes else no) := by
  have key : ∀ (d i : Nat), i + d = n → (∀ j, j < i → p j = true) → Ev (fun k => g k i) (if (List.range n).all p then yes else no) := by
    intro d
    induction d with
    | zero =>
      intro i hi hj
      obtain rfl : i = n := by omega
      rw [if_pos (List.all_eq_true.2 fun x hx => hj x (List.mem_range.1 hx))]
      exact hend hj
    | succ d ih =>
      intro i hi hj
      cases hp : p i with
      | true => exact hstep i _ (by omega) hj hp (ih (i + 1) (by omega) (fun j h => by rcases Nat.lt_or_ge j i with h2 | h2; exact hj j h2; rw [show j = i by omega]; exact hp))
      | false =>
        rw [if_neg (fun h => by have := List.all_eq_true.1 h i (List.mem_range.2 (by omega)); rw [hp] at this; cases this)]
        exact hno i (by omega) hj hp
  exact key n 0 (by omega) (fun j h => absurd h (by omega))
theorem rdP (l : List S52) (i : Nat) : rd_T52 l (i : Int) = l.getD i z52 := rfl
def pB (p : Int) (x : S52) : Bool := ballB p x.f0.f0 x.f0.f1 x.f0.f2
def pM (p : Int) (x : S52) : Int := markOf p x.f0.f1 x.f0.f2
def wB (x : S52) : Bool := decide (-1000000 ≤ x.f1 ∧ x.f1 ≤ 1000000)
section
variable {p rL rT rD : Int} {l : List S52}
theorem impl_isWeight_ev (w : Int) : Ev (fun k => impl_isWeight.f k [w]) (decide (-1000000 ≤ w ∧ w ≤ 1000000)) := by
  unfold impl_isWeight.f
  refine Ev.bind (impl_within_ev 1000000 [w] (by omega) (by omega) (by simp)) ?_
  simp only [List.all_cons, List.all_nil, Bool.and_true]
  exact Ev.now _
theorem spec_l08Key_ev {L T D : Int} (h : ballB p L T D = true) : Ev (fun k => spec_l08Key.f k p L T D) (markOf p T D) := by
  obtain ⟨hp, hL, hD, _, _⟩ := ball_parts h
  obtain ⟨m0, m1⟩ := mark_lt h
  have m2 := pow_13 hp (L + 6).toNat (by omega)
  unfold spec_l08Key.f
  rw [wid (n := 6 - D) (by omega) (by omega)]
  refine Ev.bind (spec_l01Power_ev p _ (by omega)) ?_
  rw [powW_prime hp _ (by omega), show T * p ^ (6 - D).toNat = markOf p T D from rfl, wid (by omega) (by omega)]
  exact Ev.now _
end

theorem codeB_one (p rL rT rD : Int) : codeB p [(⟨rL, rT, rD⟩ : S25)] = ballB p rL rT rD := by
  unfold codeB
  cases h : ballB p rL rT rD with
  | false => simp [h]
  | true => simp [h, (ball_parts h).1]

def posI (p : Int) (out : List S52) (x : S52) : Nat → Nat
  | 0 => 0
  | n + 1 => if pM p (out.getD n z52) > pM p x then posI p out x n else n + 1
def insI (p : Int) (out : List S52) (x : S52) : List S52 := out.take (posI p out x out.length) ++ x :: out.drop (posI p out x out.length)
def isortN (p : Int) (l : List S52) : Nat → List S52
  | 0 => []
  | i + 1 => insI p (isortN p l i) (l.getD i z52)
theorem posI_le (p : Int) (out : List S52) (x : S52) (n : Nat) : posI p out x n ≤ n := by
  induction n with
  | zero => simp [posI]
  | succ n ih =>
    unfold posI
    split <;> omega
theorem insI_len (p : Int) (out : List S52) (x : S52) : (insI p out x).length = out.length + 1 := by
  have := posI_le p out x out.length
  unfold insI
  rw [List.length_append, List.length_take, List.length_cons, List.length_drop]
  omega
theorem isortN_len (p : Int) (l : List S52) (i : Nat) : (isortN p l i).length = i := by
  induction i with
  | zero => rfl
  | succ i ih => unfold isortN; rw [insI_len, ih]
theorem insI_perm (p : Int) (out : List S52) (x : S52) : (insI p out x).Perm (x :: out) := by
  unfold insI
  refine (List.perm_middle).trans ?_
  rw [List.take_append_drop]
theorem isortN_perm (p : Int) (l : List S52) (i : Nat) (hi : i ≤ l.length) : (isortN p l i).Perm (l.take i) := by
  induction i with
  | zero => simp [isortN]
  | succ i ih =>
    unfold isortN
    refine (insI_perm p _ _).trans ((List.Perm.cons _ (ih (by omega))).trans ?_)
    have e : l.take (i + 1) = l.take i ++ [l.getD i z52] := by
      rw [List.take_add_one, List.getD_eq_getElem?_getD, List.getElem?_eq_getElem (by omega)]; rfl
    rw [e]
    exact (List.perm_append_singleton _ _).symm
theorem getD_mem {l : List S52} {i : Nat} (h : i < l.length) : l.getD i z52 ∈ l := by
  rw [List.getD_eq_getElem?_getD, List.getElem?_eq_getElem h]
  exact List.getElem_mem h
theorem isortN_mem {p : Int} {l : List S52} {i : Nat} (hi : i ≤ l.length) {x : S52} (h : x ∈ isortN p l i) : x ∈ l := List.mem_of_mem_take ((isortN_perm p l i hi).mem_iff.1 h)
theorem spec_l08Sorted_ev {p : Int} {l : List S52} (hl : l.length ≤ 1048576) (hb : ∀ x ∈ l, pB p x = true) : Ev (fun k => spec_l08Sorted.f k p l) (isortN p l l.length) := by
  have inner : ∀ (i : Nat) (out : List S52) (r : List S52), i < l.length → out.length = i → (∀ x ∈ out, pB p x = true) → ∀ n, n ≤ out.length → Ev (fun k => spec_l08Sorted.l0 k p l (out.take (posI p out (l.getD i z52) n) ++ l.getD i z52 :: out.drop (posI p out (l.getD i z52) n)) ((i + 1 : Nat) : Int)) r → Ev (fun k => spec_l08Sorted.l1 k p l out i (n : Int)) r := by
    intro i out r hi ho hbo n
    induction n with
    | zero =>
      intro _ h
      refine Ev.up ?_
      simp only [spec_l08Sorted.l1]
      simp only [if_neg (show ¬ ((0 : Nat) : Int) > 0 by omega), if_pos (show (0 : Int) ≤ (i : Int) by omega), if_pos (show (i : Int) < (l.length : Int) by omega), Option.bind_some, if_pos (show (0 : Int) ≤ ((0 : Nat) : Int) by omega), if_pos (show ((0 : Nat) : Int) ≤ (out.length : Int) by omega), Int.toNat_natCast, List.length_append, List.length_take, List.length_drop, List.length_cons, List.length_nil, List.nil_append]
      simp only [if_pos (show 0 + 1 + (out.length - 0) < 4398046511104 by omega), if_pos (show 0 + min 0 out.length < 4398046511104 by omega), if_pos (show 0 + min 0 out.length + (0 + 1 + (out.length - 0)) < 4398046511104 by omega)]
      rw [wid (n := (i : Int) + 1) (by omega) (by omega)]
      exact h
    | succ n ih =>
      intro hn h
      have hm : out.getD n z52 ∈ out := getD_mem (by omega)
      refine Ev.up ?_
      simp only [spec_l08Sorted.l1]
      simp only [if_pos (show ((n + 1 : Nat) : Int) > 0 by omega)]
      rw [wid (n := ((n + 1 : Nat) : Int) - 1) (by omega) (by omega), show ((n + 1 : Nat) : Int) - 1 = (n : Int) by omega]
      simp only [if_pos (show (0 : Int) ≤ (n : Int) by omega), if_pos (show (n : Int) < (out.length : Int) by omega), if_pos (show (0 : Int) ≤ (i : Int) by omega), if_pos (show (i : Int) < (l.length : Int) by omega), rdP]
      refine Ev.bind (spec_l08Key_ev (hbo _ hm)) (Ev.bind (spec_l08Key_ev (hb _ (getD_mem hi))) ?_)
      by_cases hgt : pM p (out.getD n z52) > pM p (l.getD i z52)
      · simp only [if_pos (show markOf p (out.getD n z52).f0.f1 (out.getD n z52).f0.f2 > markOf p (l.getD i z52).f0.f1 (l.getD i z52).f0.f2 from hgt)]
        unfold posI at h
        rw [if_pos hgt] at h
        exact ih (by omega) h
      · unfold posI at h
        rw [if_neg hgt] at h
        simp only [if_neg (show ¬ markOf p (out.getD n z52).f0.f1 (out.getD n z52).f0.f2 > markOf p (l.getD i z52).f0.f1 (l.getD i z52).f0.f2 from hgt), Option.bind_some, if_pos (show (0 : Int) ≤ ((n + 1 : Nat) : Int) by omega), if_pos (show ((n + 1 : Nat) : Int) ≤ (out.length : Int) by omega), Int.toNat_natCast, List.length_append, List.length_take, List.length_drop, List.length_cons, List.length_nil, List.nil_append]
        simp only [if_pos (show 0 + 1 + (out.length - (n + 1)) < 4398046511104 by omega), if_pos (show 0 + min (n + 1) out.length < 4398046511104 by omega), if_pos (show 0 + min (n + 1) out.length + (0 + 1 + (out.length - (n + 1))) < 4398046511104 by omega)]
        rw [wid (n := (i : Int) + 1) (by omega) (by omega)]
        exact h
  unfold spec_l08Sorted.f
  have key : ∀ (d i : Nat), i + d = l.length → Ev (fun k => spec_l08Sorted.l0 k p l (isortN p l i) i) (isortN p l l.length) := by
    intro d
    induction d with
    | zero =>
      intro i hi
      obtain rfl : i = l.length := by omega
      refine Ev.up ?_
      simp only [spec_l08Sorted.l0, if_neg (show ¬ (l.length : Int) < (l.length : Int) by omega)]
      exact Ev.now _
    | succ d ih =>
      intro i hi
      refine Ev.up ?_
      simp only [spec_l08Sorted.l0, if_pos (show (i : Int) < (l.length : Int) by omega)]
      have hlen := isortN_len p l i
      refine inner i (isortN p l i) _ (by omega) hlen (fun x hx => hb x (isortN_mem (by omega) hx)) _ (Nat.le_refl _) ?_
      exact ih (i + 1) (by omega)
  exact key l.length 0 (by omega)
def toldW (p rL rT rD : Int) (q : List S52) : Int × Int × Int × List S52 × Int :=
  if q.length ≤ 64 ∧ q.all wB = true then (rL, rT, rD, isortN p q q.length, 0) else (0, 0, 0, [], 3)
theorem all_range {l : List S52} (f : S52 → Bool) : (List.range l.length).all (fun i => f (l.getD i z52)) = l.all f := by
  rw [Bool.eq_iff_iff, List.all_eq_true, List.all_eq_true]
  constructor
  · intro h x hx
    obtain ⟨i, hi, rfl⟩ := List.mem_iff_getElem.1 hx
    have := h i (List.mem_range.2 hi)
    rwa [List.getD_eq_getElem?_getD, List.getElem?_eq_getElem hi] at this
  · intro h i hi
    exact h _ (getD_mem (List.mem_range.1 hi))
theorem spec_l08Told_ev {p rL rT rD : Int} {q : List S52} (hl : q.length ≤ 1048576) (hb : ∀ x ∈ q, pB p x = true) : Ev (fun k => spec_l08Told.f k p rL rT rD q) (toldW p rL rT rD q) := by
  unfold spec_l08Told.f toldW
  by_cases h64 : (q.length : Int) > 64
  · simp only [if_pos h64]
    rw [if_neg (by omega)]
    exact Ev.now _
  · simp only [if_neg h64]
    have := all_evp (fun k i => spec_l08Told.l0 k p q (i : Int) rL rT rD) q.length (fun i => wB (q.getD i z52)) (rL, rT, rD, isortN p q q.length, (0 : Int)) (0, 0, 0, [], 3) (fun i r hi _ hpi hr => by
        refine Ev.up ?_
        simp only [spec_l08Told.l0, rdP, if_pos (show (i : Int) < (q.length : Int) by omega), if_pos (show (0 : Int) ≤ (i : Int) by omega)]
        refine Ev.bindv (In_eq _ _ _) ?_
        rw [show decide (-1000000 ≤ (q.getD i z52).f1 ∧ (q.getD i z52).f1 ≤ 1000000) = true from hpi, wid (n := (i : Int) + 1) (by omega) (by omega)]
        simp only [if_true]
        exact hr) (fun i hi _ hpi => by
        refine Ev.up ?_
        simp only [spec_l08Told.l0, rdP, if_pos (show (i : Int) < (q.length : Int) by omega), if_pos (show (0 : Int) ≤ (i : Int) by omega)]
        refine Ev.bindv (In_eq _ _ _) ?_
        rw [show decide (-1000000 ≤ (q.getD i z52).f1 ∧ (q.getD i z52).f1 ≤ 1000000) = false from hpi]
        simp only [Bool.false_eq_true, if_false]
        exact Ev.now _) (fun _ => by
        refine Ev.up ?_
        simp only [spec_l08Told.l0, if_neg (show ¬ (q.length : Int) < (q.length : Int) by omega)]
        exact Ev.bind (spec_l08Sorted_ev hl hb) (Ev.now _))
    rw [all_range] at this
    by_cases ha : q.all wB = true
    · rw [if_pos ha] at this; rw [if_pos ⟨by omega, ha⟩]; exact this
    · rw [if_neg ha] at this; rw [if_neg (fun h => ha h.2)]; exact this


theorem Ev.all {α β : Type} {g : Nat → α → Option β} {r : α → β} (l : List α) (h : ∀ x ∈ l, Ev (fun k => g k x) (r x)) : ∃ K, ∀ k, K ≤ k → ∀ x ∈ l, g k x = some (r x) := by
  induction l with
  | nil => exact ⟨0, fun _ _ x hx => by cases hx⟩
  | cons a l ih =>
    obtain ⟨K, hK⟩ := ih (fun x hx => h x (List.mem_cons_of_mem _ hx))
    obtain ⟨K2, hK2⟩ := h a List.mem_cons_self
    refine ⟨max K K2, fun k hk x hx => ?_⟩
    rcases List.mem_cons.1 hx with rfl | hx
    · exact hK2 k (by omega)
    · exact hK k (by omega) x hx
def sortW (p : Int) (l : List S52) : List S52 := l.mergeSort fun x y => decide (pM p x ≤ pM p y)
theorem sortW_perm (p : Int) (l : List S52) : (sortW p l).Perm l := List.mergeSort_perm l _
theorem sortW_len (p : Int) (l : List S52) : (sortW p l).length = l.length := (sortW_perm p l).length_eq
theorem nodup_inj {f : S52 → Int} {l : List S52} (h : (l.map f).Nodup) : ∀ x ∈ l, ∀ y ∈ l, f x = f y → x = y := by
  induction l with
  | nil => intro x hx; cases hx
  | cons a l ih =>
    rw [List.map_cons, List.nodup_cons] at h
    intro x hx y hy e
    rcases List.mem_cons.1 hx with hx1 | hx1 <;> rcases List.mem_cons.1 hy with hy1 | hy1
    · rw [hx1, hy1]
    · exact absurd (List.mem_map.2 ⟨y, hy1, by rw [← e, hx1]⟩) h.1
    · exact absurd (List.mem_map.2 ⟨x, hx1, by rw [e, hy1]⟩) h.1
    · exact ih h.2 x hx1 y hy1 e
theorem posI_split {p : Int} {out : List S52} {x : S52} (hs : out.Pairwise fun a b => pM p a ≤ pM p b) (n : Nat) (hn : n ≤ out.length) (hr : ∀ y ∈ out.drop n, pM p x ≤ pM p y) : (∀ y ∈ out.take (posI p out x n), pM p y ≤ pM p x) ∧ ∀ y ∈ out.drop (posI p out x n), pM p x ≤ pM p y := by
  induction n with
  | zero => exact ⟨fun y hy => by simp [posI] at hy, hr⟩
  | succ n ih =>
    have hd : out.drop n = out.getD n z52 :: out.drop (n + 1) := by
      rw [List.drop_eq_getElem_cons (by omega), List.getD_eq_getElem?_getD, List.getElem?_eq_getElem (by omega)]; rfl
    unfold posI
    by_cases hgt : pM p (out.getD n z52) > pM p x
    · rw [if_pos hgt]
      refine ih (by omega) (fun y hy => ?_)
      rw [hd] at hy
      rcases List.mem_cons.1 hy with rfl | hy
      · omega
      · exact hr y hy
    · rw [if_neg hgt]
      refine ⟨fun y hy => ?_, hr⟩
      obtain ⟨j, hj, rfl⟩ := List.mem_iff_getElem.1 hy
      rw [List.length_take] at hj
      rw [List.getElem_take]
      have e : out[n] = out.getD n z52 := by rw [List.getD_eq_getElem?_getD, List.getElem?_eq_getElem (by omega)]; rfl
      rcases Nat.lt_or_ge j n with hjn | hjn
      · have := List.pairwise_iff_getElem.1 hs j n (by omega) (by omega) hjn
        rw [e] at this
        omega
      · obtain rfl : j = n := by omega
        rw [e]; omega
theorem isortN_sorted (p : Int) (l : List S52) (i : Nat) : (isortN p l i).Pairwise fun a b => pM p a ≤ pM p b := by
  induction i with
  | zero => simp [isortN]
  | succ i ih =>
    unfold isortN insI
    generalize isortN p l i = out at ih
    generalize l.getD i z52 = x
    obtain ⟨h1, h2⟩ := posI_split (x := x) ih out.length (Nat.le_refl _) (fun y hy => by rw [List.drop_of_length_le (Nat.le_refl _)] at hy; cases hy)
    have hsp : (out.take (posI p out x out.length) ++ out.drop (posI p out x out.length)).Pairwise fun a b => pM p a ≤ pM p b := by rw [List.take_append_drop]; exact ih
    rw [List.pairwise_append] at hsp
    rw [List.pairwise_append]
    refine ⟨hsp.1, List.pairwise_cons.2 ⟨h2, hsp.2.1⟩, fun a ha b hb => ?_⟩
    rcases List.mem_cons.1 hb with rfl | hb
    · exact h1 a ha
    · exact hsp.2.2 a ha b hb
theorem isortN_sortW {p : Int} {l : List S52} (hnd : (l.map (pM p)).Nodup) : isortN p l l.length = sortW p l := by
  refine List.Perm.eq_of_pairwise (le := fun a b => pM p a ≤ pM p b) ?_ (isortN_sorted p l _) ?_ ?_
  · intro a b ha hb h1 h2
    exact nodup_inj hnd a (isortN_mem (Nat.le_refl _) ha) b ((sortW_perm p l).mem_iff.1 hb) (by omega)
  · have := List.pairwise_mergeSort (le := fun x y : S52 => decide (pM p x ≤ pM p y)) (fun a b c h1 h2 => by simp only [decide_eq_true_eq] at *; omega) (fun a b => by simp only [Bool.or_eq_true, decide_eq_true_eq]; omega) l
    exact this.imp (fun h => of_decide_eq_true h)
  · have h := isortN_perm p l l.length (Nat.le_refl _)
    rw [List.take_of_length_le (Nat.le_refl _)] at h
    exact h.trans (sortW_perm p l).symm
theorem impl_sorted_ev {p rL rT rD : Int} {l : List S52} (hl0 : 0 < l.length) (hl : l.length ≤ 1048576) (hb : ∀ x ∈ l, pB p x = true) (hnd : (l.map (pM p)).Nodup) : Ev (fun k => impl_sorted.f k p rL rT rD l) (rL, rT, rD, sortW p l) := by
  obtain ⟨K, hK⟩ := Ev.all (g := fun k (x : S52) => impl_mark.f k p x.f0.f0 x.f0.f1 x.f0.f2) (r := fun x => pM p x) l (fun x hx => impl_mark_ev (hb x hx))
  refine ⟨K, fun k hk => ?_⟩
  have h := hK k hk
  have hkey : ∀ x ∈ l, impl_sorted.key k p x = pM p x := fun x hx => by unfold impl_sorted.key; rw [h x hx]; rfl
  unfold impl_sorted.f
  show (if _ then some _ else none) = some _
  rw [if_pos ⟨⟨hl0, by omega⟩, List.all_eq_true.2 fun x hx => by rw [h x hx]; rfl, by rw [List.map_congr_left hkey]; exact hnd⟩]
  have hm := List.map_mergeSort (r := fun x y => decide (impl_sorted.key k p x ≤ impl_sorted.key k p y)) (s := fun x y => decide (pM p x ≤ pM p y)) (f := fun x : S52 => x) (l := l) (fun a ha b hb => by rw [hkey a ha, hkey b hb])
  simp only [List.map_id'] at hm
  rw [hm]
  rfl

def chM (p L T D c : Int) : Int × Int × Int := ofM p (L + 1) (markOf p T D + c * p ^ (L + 6).toNat)
def chW (p L T D c : Int) : Int × Int × Int × Bool := if L = 6 then (0, 0, 0, false) else ((chM p L T D c).1, (chM p L T D c).2.1, (chM p L T D c).2.2, true)
theorem chM_ball {p L T D : Int} (c : Int) (h : ballB p L T D = true) (hL : L ≠ 6) : ballB p (chM p L T D c).1 (chM p L T D c).2.1 (chM p L T D c).2.2 = true := by
  obtain ⟨hp, h1, _⟩ := ball_parts h
  exact ofM_ball (L := L + 1) hp (by omega)
theorem mul_bdc {x y M N : Int} (hx : -M ≤ x ∧ x ≤ M) (hy : 1 ≤ y) (hy2 : y ≤ N) : -(M * N) ≤ x * y ∧ x * y ≤ M * N := by
  have h1 := Int.mul_nonneg (show 0 ≤ M - x by omega) (show 0 ≤ y by omega)
  have h2 := Int.mul_nonneg (show 0 ≤ M + x by omega) (show 0 ≤ y by omega)
  have h3 := Int.mul_nonneg (show 0 ≤ M by omega) (show 0 ≤ N - y by omega)
  simp only [Int.sub_mul, Int.mul_sub, Int.add_mul] at h1 h2 h3
  constructor <;> omega

theorem impl_valuation_l (p : Int) (hp : 2 ≤ p) (v : Nat) : ∀ (n u acc : Int), n = p ^ v * u → ¬ p ∣ u → n ≠ 0 → -4611686018427387904 ≤ n → n ≤ 4611686018427387904 → 0 ≤ acc → acc + v ≤ 4611686018427387904 → Ev (fun k => impl_valuation.l0 k p n acc) (acc + v) := by
  induction v with
  | zero =>
    intro n u acc h hu h0 h1 h2 h3 h4
    refine Ev.step (f := fun _ => some acc) (fun k => ?_) (by simp; exact Ev.now _)
    simp only [impl_valuation.l0]
    rw [if_neg (by omega), if_neg]
    intro e
    rw [h] at e
    exact hu (by simpa using Int.dvd_of_tmod_eq_zero e)
  | succ v ih =>
    intro n u acc h hu h0 h1 h2 h3 h4
    have hn : n = p * (p ^ v * u) := by rw [h, Int.pow_succ', Int.mul_assoc]
    have hm : Int.tmod n p = 0 := by rw [hn]; exact Int.mul_tmod_right p _
    have hd : Int.tdiv n p = p ^ v * u := by rw [hn]; exact Int.mul_tdiv_cancel_left _ (by omega)
    have hb := tdiv_bdv p (show -4611686018427387904 ≤ n ∧ n ≤ 4611686018427387904 from ⟨h1, h2⟩)
    have hne : p ^ v * u ≠ 0 := by intro e; rw [e] at hn; simp at hn; exact h0 hn
    refine Ev.step (f := fun k => impl_valuation.l0 k p (p ^ v * u) (acc + 1)) (fun k => ?_) ?_
    · simp only [impl_valuation.l0]
      rw [if_neg (by omega), if_pos hm, hd]
      rw [hd] at hb
      rw [wid (n := p ^ v * u) (by omega) (by omega), wid (n := acc + 1) (by omega) (by omega)]
    · rw [hd] at hb
      have := ih (p ^ v * u) u (acc + 1) rfl hu hne hb.1 hb.2 (by omega) (by omega)
      rw [show acc + ((v + 1 : Nat) : Int) = acc + 1 + (v : Int) from by omega]
      exact this
def valW (p n : Int) : Int := if n = 0 then 1000 else val p n
theorem impl_valuation_ev {p n : Int} (hp : 2 ≤ p) (h1 : -4611686018427387904 ≤ n) (h2 : n ≤ 4611686018427387904) : Ev (fun k => impl_valuation.f k p n) (valW p n) := by
  unfold impl_valuation.f valW
  by_cases h0 : n = 0
  · simp only [if_pos h0]; exact Ev.now _
  · simp only [if_neg h0]
    obtain ⟨u, h, hu⟩ := val_spec hp h0
    have hv := val_le_of_lt hp h0 63 (by omega)
    have := impl_valuation_l p hp (val p n) n u 0 h hu h0 h1 h2 (by omega) (by omega)
    rw [Int.zero_add] at this
    exact this

theorem impl_mod_eq {a m : Int} (hm : 1 ≤ m) (hm2 : m ≤ 2305843009213693952) : impl_mod.f a m = some (a % m) := by
  unfold impl_mod.f
  rw [if_neg (by omega), modW hm hm2]
theorem impl_ofMark_ev {p L x : Int} (hp : primeB p = true) (hL : -6 ≤ L ∧ L ≤ 6) : Ev (fun k => impl_ofMark.f k p L x) ((ofM p L x).1, (ofM p L x).2.1, (ofM p L x).2.2, true) := by
  have hp2 := prime_lo hp
  unfold impl_ofMark.f
  refine Ev.bindv (impl_isLevel_eq L) ?_
  rw [decide_eq_true hL]
  simp only [if_true]
  rw [wid (n := L + 6) (by omega) (by omega)]
  refine Ev.bind (impl_power_ev p (L + 6) (by omega)) ?_
  rw [powW_prime hp _ (by omega)]
  have m1 := ipow_pos (p := p) (by omega) (L + 6).toNat
  have m2 := pow_13 hp (L + 6).toNat (by omega)
  refine Ev.bindv (impl_mod_eq m1 (by omega)) ?_
  have x0 := Int.emod_nonneg x (show p ^ (L + 6).toNat ≠ 0 by omega)
  have x1 := Int.emod_lt_of_pos x (show 0 < p ^ (L + 6).toNat by omega)
  refine Ev.bind (impl_valuation_ev hp2 (by omega) (by omega)) ?_
  have hv : valW p (x % p ^ (L + 6).toNat) ≤ 1000 ∧ 0 ≤ valW p (x % p ^ (L + 6).toNat) := by
    unfold valW
    split
    · omega
    · rename_i h0
      have := val_le_of_lt hp2 h0 62 (by omega)
      omega
  have hdn : mx (wrap64 (6 - valW p (x % p ^ (L + 6).toNat))) 0 = (ofM p L x).2.2 := by
    rw [wid (n := 6 - valW p (x % p ^ (L + 6).toNat)) (by omega) (by omega)]
    unfold ofM valW mx
    simp only
    by_cases h0 : x % p ^ (L + 6).toNat = 0
    · rw [if_pos h0, if_pos h0]; rfl
    · rw [if_neg h0, if_neg h0]
      by_cases h6 : ((val p (x % p ^ (L + 6).toNat) : Nat) : Int) < 6
      · rw [if_neg (by omega), if_pos h6]
      · rw [if_neg h6]; split <;> omega
  rw [hdn]
  obtain ⟨_, hD, _⟩ := ofM_back (p := p) (L := L) (X := x) hp2
  rw [wid (n := 6 - (ofM p L x).2.2) (by omega) (by omega)]
  refine Ev.bind (impl_power_ev p _ (by omega)) ?_
  rw [powW_prime hp _ (by omega)]
  have q1 := ipow_pos (p := p) (by omega) (6 - (ofM p L x).2.2).toNat
  simp only [if_neg (show ¬ p ^ (6 - (ofM p L x).2.2).toNat = 0 by omega)]
  rw [tdiv_cast x0]
  have hT : x % p ^ (L + 6).toNat / p ^ (6 - (ofM p L x).2.2).toNat = (ofM p L x).2.1 := rfl
  have d0 := Int.ediv_nonneg x0 (show 0 ≤ p ^ (6 - (ofM p L x).2.2).toNat by omega)
  have d1 := Int.ediv_le_self (p ^ (6 - (ofM p L x).2.2).toNat) x0
  rw [wid (n := x % p ^ (L + 6).toNat / p ^ (6 - (ofM p L x).2.2).toNat) (by omega) (by omega), hT]
  exact Ev.now _
theorem impl_ofMark_out {p L x : Int} (hL : ¬ (-6 ≤ L ∧ L ≤ 6)) : Ev (fun k => impl_ofMark.f k p L x) (0, 0, 0, false) := by
  unfold impl_ofMark.f
  refine Ev.bindv (impl_isLevel_eq L) ?_
  rw [decide_eq_false hL]
  simp only [Bool.false_eq_true, if_false]
  exact Ev.now _

theorem impl_child_ev {p L T D c : Int} (h : ballB p L T D = true) (hc : -1000 ≤ c ∧ c ≤ 1000) : Ev (fun k => impl_child.f k p L T D c) (chW p L T D c) := by
  obtain ⟨hp, hL, _⟩ := ball_parts h
  have hp2 := prime_lo hp
  obtain ⟨m0, m1⟩ := mark_lt h
  have q1 := ipow_pos (p := p) (by omega) (L + 6).toNat
  have q2 := pow_13 hp (L + 6).toNat (by omega)
  have a1 := mul_bdc hc q1 q2
  unfold impl_child.f chW
  refine Ev.bind (impl_mark_ev h) ?_
  rw [wid (n := L + 6) (by omega) (by omega)]
  refine Ev.bind (impl_power_ev p _ (by omega)) ?_
  rw [powW_prime hp _ (by omega), wid (n := L + 1) (by omega) (by omega), wid (n := c * p ^ (L + 6).toNat) (by omega) (by omega), wid (n := markOf p T D + c * p ^ (L + 6).toNat) (by omega) (by omega)]
  by_cases h6 : L = 6
  · rw [if_pos h6]
    exact Ev.bind (impl_ofMark_out (by omega)) (Ev.now _)
  · rw [if_neg h6]
    exact Ev.bind (impl_ofMark_ev hp (by omega)) (Ev.now _)
theorem spec_l01Child_ev {p L T D c : Int} (h : ballB p L T D = true) (hc : -1000 ≤ c ∧ c ≤ 1000) : Ev (fun k => spec_l01Child.f k p L T D c) (chW p L T D c) := by
  obtain ⟨hp, hL, hD, _⟩ := ball_parts h
  have hp2 := prime_lo hp
  have hT := ball_num h
  have pD := pow_13 hp D.toNat (by omega)
  have pD1 := ipow_pos (p := p) (by omega) D.toNat
  unfold spec_l01Child.f chW
  by_cases h6 : L = 6
  · simp only [if_pos h6]; exact Ev.now _
  simp only [if_neg h6]
  refine Ev.bind (spec_l01Power_ev p D (by omega)) ?_
  rw [powW_prime hp _ (by omega)]
  by_cases h0 : L ≥ 0
  · simp only [if_pos h0]
    refine Ev.bind (spec_l01Power_ev p L (by omega)) ?_
    rw [powW_prime hp _ (by omega)]
    have qL := pow_13 hp (L.toNat + D.toNat) (by omega)
    have qL1 := ipow_pos (p := p) (by omega) (L.toNat + D.toNat)
    have a1 := mul_bdc hc pD1 pD
    have a2 := mul_bdc hc qL1 qL
    have e1 : c * p ^ D.toNat * p ^ L.toNat = c * p ^ (L.toNat + D.toNat) := by rw [Int.mul_assoc, ← Int.pow_add, Nat.add_comm]
    rw [wid (n := c * p ^ D.toNat) (by omega) (by omega), e1, wid (n := c * p ^ (L.toNat + D.toNat)) (by omega) (by omega), wid (n := T + c * p ^ (L.toNat + D.toNat)) (by omega) (by omega), wid (n := L + 1) (by omega) (by omega)]
    have := spec_l01Of_pow (num := T + c * p ^ (L.toNat + D.toNat)) (L := L + 1) D.toNat hp (by omega) (by omega) (by omega) (by omega)
    rw [show (T + c * p ^ (L.toNat + D.toNat)) * p ^ (6 - D.toNat) = markOf p T D + c * p ^ (L + 6).toNat from by
      rw [Int.add_mul, Int.mul_assoc, ← Int.pow_add, show L.toNat + D.toNat + (6 - D.toNat) = (L + 6).toNat from by omega, show 6 - D.toNat = (6 - D).toNat from by omega]; rfl] at this
    exact Ev.bind this (Ev.now _)
  · simp only [if_neg h0]
    rw [wid (n := -L) (by omega) (by omega)]
    have pL := pow_13 hp (-L).toNat (by omega)
    have pL1 := ipow_pos (p := p) (by omega) (-L).toNat
    refine Ev.bind (spec_l01Power_ev p (-L) (by omega)) ?_
    rw [powW_prime hp _ (by omega)]
    simp only [if_neg (show ¬ p ^ D.toNat = 0 by omega), if_neg (show ¬ p ^ (-L).toNat = 0 by omega)]
    obtain ⟨E, hE, hE2, hE3, hE4⟩ : ∃ E : Nat, mx (p ^ D.toNat) (p ^ (-L).toNat) = p ^ E ∧ D.toNat ≤ E ∧ (-L).toNat ≤ E ∧ E ≤ 6 := by
      by_cases hc2 : D.toNat ≤ (-L).toNat
      · refine ⟨(-L).toNat, ?_, hc2, Nat.le_refl _, by omega⟩
        have := ipow_mono (p := p) (by omega) hc2
        rw [mx_eq]; split <;> omega
      · refine ⟨D.toNat, ?_, Nat.le_refl _, by omega, by omega⟩
        have := ipow_mono (p := p) (by omega) (show (-L).toNat ≤ D.toNat by omega)
        rw [mx_eq]; split <;> omega
    rw [hE]
    have hpow : ∀ j : Nat, p ^ j ≠ 0 := fun j => Int.pow_ne_zero (by omega)
    have d1 : Int.tdiv (p ^ E) (p ^ D.toNat) = p ^ (E - D.toNat) := by
      rw [show p ^ E = p ^ D.toNat * p ^ (E - D.toNat) from by rw [← Int.pow_add]; congr 1; omega]
      exact Int.mul_tdiv_cancel_left _ (hpow _)
    have d2 : Int.tdiv (p ^ E) (p ^ (-L).toNat) = p ^ (E - (-L).toNat) := by
      rw [show p ^ E = p ^ (-L).toNat * p ^ (E - (-L).toNat) from by rw [← Int.pow_add]; congr 1; omega]
      exact Int.mul_tdiv_cancel_left _ (hpow _)
    have b1 := pow_13 hp (E - D.toNat) (by omega)
    have b2 := ipow_pos (p := p) (by omega) (E - D.toNat)
    have b5 : p ^ (E - D.toNat) ≤ 117649 := by
      have h1 : p ^ (E - D.toNat) ≤ p ^ 6 := ipow_mono (by omega) (by omega)
      have h2 : p ^ 6 ≤ 117649 := by rcases prime_cases hp with rfl | rfl | rfl | rfl <;> decide
      omega
    have b3 := pow_13 hp (E - (-L).toNat) (by omega)
    have b4 := ipow_pos (p := p) (by omega) (E - (-L).toNat)
    rw [d1, d2, wid (n := p ^ (E - D.toNat)) (by omega) (by omega), wid (n := p ^ (E - (-L).toNat)) (by omega) (by omega)]
    have a1 : T * p ^ (E - D.toNat) ≤ 13841287201 * 117649 := Int.mul_le_mul hT.2 b5 (by omega) (by omega)
    have a0 : 0 ≤ T * p ^ (E - D.toNat) := Int.mul_nonneg hT.1 (by omega)
    have a2 := mul_bdc hc b4 b3
    rw [wid (n := T * p ^ (E - D.toNat)) (by omega) (by omega), wid (n := c * p ^ (E - (-L).toNat)) (by omega) (by omega), wid (n := T * p ^ (E - D.toNat) + c * p ^ (E - (-L).toNat)) (by omega) (by omega), wid (n := L + 1) (by omega) (by omega)]
    have := spec_l01Of_pow (num := T * p ^ (E - D.toNat) + c * p ^ (E - (-L).toNat)) (L := L + 1) E hp hE4 (by omega) (by omega) (by omega)
    rw [show (T * p ^ (E - D.toNat) + c * p ^ (E - (-L).toNat)) * p ^ (6 - E) = markOf p T D + c * p ^ (L + 6).toNat from by
      rw [Int.add_mul, Int.mul_assoc, Int.mul_assoc, ← Int.pow_add, ← Int.pow_add, show E - (-L).toNat + (6 - E) = (L + 6).toNat from by omega, show E - D.toNat + (6 - E) = (6 - D).toNat from by omega]; rfl] at this
    exact Ev.bind this (Ev.now _)

def chP (p : Int) (x : S52) (c : Nat) : S25 := ⟨(chM p x.f0.f0 x.f0.f1 x.f0.f2 (c : Int)).1, (chM p x.f0.f0 x.f0.f1 x.f0.f2 (c : Int)).2.1, (chM p x.f0.f0 x.f0.f1 x.f0.f2 (c : Int)).2.2⟩
def kidP (p : Int) (ws : List Int) (x : S52) (c : Nat) : S52 := ⟨chP p x c, wrap64 (x.f1 * rd ws (c : Int))⟩
def kids (p : Int) (ws : List Int) (x : S52) : List S52 := (List.range ws.length).map (kidP p ws x)
def kidL (p : Int) (ws : List Int) (l : List S52) : List S52 := l.flatMap (kids p ws)
theorem kids_len (p : Int) (ws : List Int) (x : S52) : (kids p ws x).length = ws.length := by simp [kids]
theorem kids_take (p : Int) (ws : List Int) (x : S52) (j : Nat) (hj : j < ws.length) : (kids p ws x).take (j + 1) = (kids p ws x).take j ++ [kidP p ws x j] := by
  rw [List.take_add_one, List.getElem?_eq_getElem (by rw [kids_len]; exact hj)]
  simp [kids]
theorem kidL_take (p : Int) (ws : List Int) (l : List S52) (i : Nat) (hi : i < l.length) : kidL p ws (l.take (i + 1)) = kidL p ws (l.take i) ++ kids p ws (l.getD i z52) := by
  unfold kidL
  rw [List.take_add_one, List.getD_eq_getElem?_getD, List.getElem?_eq_getElem hi, List.flatMap_append]
  simp only [Option.toList_some, List.flatMap_cons, List.flatMap_nil, List.append_nil, Option.getD_some]
theorem kidL_len (p : Int) (ws : List Int) (l : List S52) : (kidL p ws l).length = l.length * ws.length := by
  induction l with
  | nil => simp [kidL]
  | cons x l ih =>
    have e : kidL p ws (x :: l) = kids p ws x ++ kidL p ws l := by simp [kidL]
    rw [e, List.length_append, ih, kids_len, List.length_cons, Nat.succ_mul, Nat.add_comm]
def Lvl (p L : Int) (l : List S52) : Prop := (∀ x ∈ l, pB p x = true ∧ x.f0.f0 = L) ∧ (l.map (pM p)).Nodup ∧ 0 < l.length ∧ l.all wB = true
theorem kid_ball {p : Int} {ws : List Int} {x : S52} (h : pB p x = true) (hL : x.f0.f0 ≠ 6) (c : Nat) : pB p (kidP p ws x c) = true ∧ (kidP p ws x c).f0.f0 = x.f0.f0 + 1 := ⟨chM_ball (c : Int) h hL, rfl⟩
theorem kid_mark {p : Int} {ws : List Int} {x : S52} (h : pB p x = true) (hL : x.f0.f0 ≠ 6) (c : Nat) (hc : (c : Int) < p) : pM p (kidP p ws x c) = pM p x + (c : Int) * p ^ (x.f0.f0 + 6).toNat := by
  obtain ⟨hp, h1, _⟩ := ball_parts h
  have hp2 := prime_lo hp
  obtain ⟨m0, m1⟩ := mark_lt h
  have hb := (kid_ball (ws := ws) h hL c).1
  have e := ofM_back (p := p) (L := x.f0.f0 + 1) (X := markOf p x.f0.f1 x.f0.f2 + (c : Int) * p ^ (x.f0.f0 + 6).toNat) hp2
  show (chM p x.f0.f0 x.f0.f1 x.f0.f2 (c : Int)).2.1 * p ^ (6 - (chM p x.f0.f0 x.f0.f1 x.f0.f2 (c : Int)).2.2).toNat = _
  unfold chM
  rw [e.1]
  have q := ipow_pos (p := p) (by omega) (x.f0.f0 + 6).toNat
  have e2 : p ^ (x.f0.f0 + 1 + 6).toNat = p ^ (x.f0.f0 + 6).toNat * p := by rw [← Int.pow_succ]; congr 1; omega
  have h3 : (c : Int) * p ^ (x.f0.f0 + 6).toNat ≤ (p - 1) * p ^ (x.f0.f0 + 6).toNat := Int.mul_le_mul_of_nonneg_right (by omega) (by omega)
  have h4 : 0 ≤ (c : Int) * p ^ (x.f0.f0 + 6).toNat := Int.mul_nonneg (by omega) (by omega)
  rw [Int.sub_mul, Int.one_mul, Int.mul_comm p] at h3
  rw [Int.emod_eq_of_lt (by omega) (by rw [e2]; omega)]
  rfl
theorem kidL_lvl {p L : Int} {ws : List Int} {l : List S52} (h : Lvl p L l) (hp : (ws.length : Int) = p) (hp2 : 2 ≤ p) (hL : L ≠ 6) (hw : (kidL p ws l).all wB = true) : Lvl p (L + 1) (kidL p ws l) := by
  obtain ⟨h1, h2, h3, h4⟩ := h
  refine ⟨fun y hy => ?_, ?_, ?_, hw⟩
  · obtain ⟨x, hx, hy⟩ := List.mem_flatMap.1 hy
    obtain ⟨c, _, rfl⟩ := List.mem_map.1 hy
    obtain ⟨hb, he⟩ := h1 x hx
    have := kid_ball (ws := ws) hb (by omega) c
    exact ⟨this.1, by rw [this.2, he]⟩
  · have q := ipow_pos (p := p) (by omega) (L + 6).toNat
    have hm : ∀ x ∈ l, ∀ c, c < ws.length → pM p (kidP p ws x c) = pM p x + (c : Int) * p ^ (L + 6).toNat := fun x hx c hc => by
      have := kid_mark (ws := ws) (h1 x hx).1 (by rw [(h1 x hx).2]; exact hL) c (by omega)
      rw [(h1 x hx).2] at this
      exact this
    have hlt : ∀ x ∈ l, 0 ≤ pM p x ∧ pM p x < p ^ (L + 6).toNat := fun x hx => by
      have := mark_lt (h1 x hx).1
      rw [(h1 x hx).2] at this
      exact this
    clear h1 h3 hw h4
    generalize p ^ (L + 6).toNat = Q at q hm hlt
    induction l with
    | nil => simp [kidL]
    | cons x l ih =>
      have e : kidL p ws (x :: l) = kids p ws x ++ kidL p ws l := by simp [kidL]
      rw [List.map_cons, List.nodup_cons] at h2
      rw [e, List.map_append, List.nodup_append]
      refine ⟨?_, ih h2.2 (fun y hy => hm y (List.mem_cons_of_mem _ hy)) (fun y hy => hlt y (List.mem_cons_of_mem _ hy)), ?_⟩
      · have e2 : (kids p ws x).map (pM p) = (List.range ws.length).map fun c : Nat => pM p x + (c : Int) * Q := by
          unfold kids
          rw [List.map_map]
          exact List.map_congr_left fun c hc => hm x List.mem_cons_self c (List.mem_range.1 hc)
        rw [e2]
        refine List.Pairwise.map _ (fun a b hab he => hab ?_) List.nodup_range
        have h5 : (a : Int) * Q = (b : Int) * Q := by omega
        have h6 := Int.eq_of_mul_eq_mul_right (show Q ≠ 0 by omega) h5
        omega
      · intro a ha b hb he
        obtain ⟨y, hy, rfl⟩ := List.mem_map.1 ha
        obtain ⟨c, hc, rfl⟩ := List.mem_map.1 hy
        obtain ⟨y2, hy2, rfl⟩ := List.mem_map.1 hb
        obtain ⟨x2, hx2, hy3⟩ := List.mem_flatMap.1 hy2
        obtain ⟨c2, hc2, rfl⟩ := List.mem_map.1 hy3
        rw [hm x List.mem_cons_self c (List.mem_range.1 hc), hm x2 (List.mem_cons_of_mem _ hx2) c2 (List.mem_range.1 hc2)] at he
        have b1 := hlt x List.mem_cons_self
        have b2 := hlt x2 (List.mem_cons_of_mem _ hx2)
        have h5 : pM p x = pM p x2 := by
          have e1 : (pM p x + (c : Int) * Q) % Q = pM p x := by rw [Int.add_mul_emod_self_right]; exact Int.emod_eq_of_lt b1.1 b1.2
          have e2 : (pM p x2 + (c2 : Int) * Q) % Q = pM p x2 := by rw [Int.add_mul_emod_self_right]; exact Int.emod_eq_of_lt b2.1 b2.2
          rw [he, e2] at e1
          exact e1.symm
        exact h2.1 (List.mem_map.2 ⟨x2, hx2, h5.symm⟩)
  · rw [kidL_len]
    exact Nat.mul_pos h3 (by omega)
def resI (p rL rT rD : Int) (ws : List Int) : Nat → List S52 → Int × Int × Int × List S52 × Int
  | 0, l => (rL, rT, rD, sortW p l, 0)
  | d + 1, l => if (kidL p ws l).all wB then resI p rL rT rD ws d (kidL p ws l) else (0, 0, 0, [], 3)
def goodD (p L : Int) (d : Nat) (n : Nat) : Prop := (n : Int) * p ^ d ≤ 64 ∧ L + (d : Int) ≤ 6
theorem kidL_all (p : Int) (ws : List Int) (l : List S52) : (List.range l.length).all (fun i => (kids p ws (l.getD i z52)).all wB) = (kidL p ws l).all wB := by
  rw [all_range (fun x => (kids p ws x).all wB)]
  unfold kidL
  rw [List.all_flatMap]
theorem kids_all (p : Int) (ws : List Int) (x : S52) : (List.range ws.length).all (fun j => wB (kidP p ws x j)) = (kids p ws x).all wB := by
  unfold kids
  rw [List.all_map]; rfl
section
variable {p rL rT rD L : Int} {ws : List Int} (hpr : primeB p = true) (hws : (ws.length : Int) = p)
include hpr hws in
theorem impl_dig_l2 (l acc : List S52) (d e i : Int) (x : S52) (hx : pB p x = true) (hL : x.f0.f0 ≠ 6) (hacc : acc.length ≤ 4096) (r : Int × Int × Int × List S52 × Int) (hi : 0 ≤ i ∧ i ≤ 4096)
    (hy : (kids p ws x).all wB = true → Ev (fun k => impl_DigitMeasure.l1 k p ws (acc ++ kids p ws x) d e l l.length (i + 1) rL rT rD) r) (hn : (kids p ws x).all wB = false → r = (0, 0, 0, [], 3)) :
    Ev (fun k => impl_DigitMeasure.l2 k p ws acc d e l l.length i ws ws.length 0 rL rT rD x.f0.f0 x.f0.f1 x.f0.f2 x.f1) r := by
  have hp := prime_lo hpr
  have hp7 := prime_hi hpr
  have := all_evp (fun k j => impl_DigitMeasure.l2 k p ws (acc ++ (kids p ws x).take j) d e l l.length i ws ws.length (j : Int) rL rT rD x.f0.f0 x.f0.f1 x.f0.f2 x.f1) ws.length (fun j => wB (kidP p ws x j)) r (0, 0, 0, [], 3) (fun j r' hj _ hpj hr' => by
      have hlen : (acc ++ (kids p ws x).take j).length < 4398046511104 := by rw [List.length_append, List.length_take, kids_len]; omega
      refine Ev.up ?_
      simp only [impl_DigitMeasure.l2]
      simp only [if_pos (show (j : Int) < (ws.length : Int) by omega), if_pos (show (0 : Int) ≤ (j : Int) by omega)]
      refine Ev.bind (impl_child_ev hx (c := (j : Int)) (by omega)) ?_
      refine Ev.bind (impl_isWeight_ev _) ?_
      rw [show decide (-1000000 ≤ wrap64 (x.f1 * rd ws (j : Int)) ∧ wrap64 (x.f1 * rd ws (j : Int)) ≤ 1000000) = true from hpj, wid (n := (j : Int) + 1) (by omega) (by omega)]
      simp only [if_true, if_pos hlen]
      unfold chW
      simp only [if_neg hL]
      rw [kids_take _ _ _ _ hj, ← List.append_assoc] at hr'
      exact hr') (fun j hj _ hpj => by
      refine Ev.up ?_
      simp only [impl_DigitMeasure.l2]
      simp only [if_pos (show (j : Int) < (ws.length : Int) by omega), if_pos (show (0 : Int) ≤ (j : Int) by omega)]
      refine Ev.bind (impl_child_ev hx (c := (j : Int)) (by omega)) ?_
      refine Ev.bind (impl_isWeight_ev _) ?_
      rw [show decide (-1000000 ≤ wrap64 (x.f1 * rd ws (j : Int)) ∧ wrap64 (x.f1 * rd ws (j : Int)) ≤ 1000000) = false from hpj]
      simp only [Bool.false_eq_true, if_false]
      exact Ev.now _) (fun hj => by
      have ha : (kids p ws x).all wB = true := by rw [← kids_all]; exact List.all_eq_true.2 fun j h => hj j (List.mem_range.1 h)
      refine Ev.up ?_
      simp only [impl_DigitMeasure.l2, if_neg (show ¬ (ws.length : Int) < (ws.length : Int) by omega)]
      rw [List.take_of_length_le (by rw [kids_len]; omega), wid (n := i + 1) (by omega) (by omega)]
      exact hy ha)
  rw [kids_all] at this
  simp only [List.take_zero, List.append_nil] at this
  cases ha : (kids p ws x).all wB with
  | true => rw [ha] at this; exact this
  | false => rw [ha] at this; rw [hn ha]; exact this
include hpr hws in
theorem impl_dig_l1 (l : List S52) (d e : Int) (he : 0 ≤ e ∧ e ≤ 100) (hl : Lvl p L l) (hL : L ≠ 6) (hlen : l.length * ws.length ≤ 64) (r : Int × Int × Int × List S52 × Int)
    (hy : (kidL p ws l).all wB = true → Ev (fun k => impl_DigitMeasure.l0 k p ws (kidL p ws l) d (e + 1) rL rT rD) r) (hn : (kidL p ws l).all wB = false → r = (0, 0, 0, [], 3)) :
    Ev (fun k => impl_DigitMeasure.l1 k p ws [] d e l l.length 0 rL rT rD) r := by
  have hp := prime_lo hpr
  have hl64 : l.length ≤ 64 := Nat.le_trans (Nat.le_mul_of_pos_right _ (by omega)) hlen
  have hk : ∀ i, i ≤ l.length → (kidL p ws (l.take i)).length ≤ 64 := fun i hi => by
    rw [kidL_len, List.length_take]
    exact Nat.le_trans (Nat.mul_le_mul_right _ (Nat.min_le_right _ _)) hlen
  have hmem : ∀ i, i < l.length → l.getD i z52 ∈ l := fun i hi => getD_mem hi
  have := all_evp (fun k i => impl_DigitMeasure.l1 k p ws (kidL p ws (l.take i)) d e l l.length (i : Int) rL rT rD) l.length (fun i => (kids p ws (l.getD i z52)).all wB) r (0, 0, 0, [], 3) (fun i r' hi _ hpi hr' => by
      obtain ⟨hb, hLx⟩ := hl.1 _ (hmem i hi)
      refine Ev.up ?_
      simp only [impl_DigitMeasure.l1, rdP]
      simp only [if_pos (show (i : Int) < (l.length : Int) by omega), if_pos (show (0 : Int) ≤ (i : Int) by omega)]
      refine impl_dig_l2 hpr hws l (kidL p ws (l.take i)) d e i _ hb (by rw [hLx]; exact hL) (by have := hk i (by omega); omega) r' (by omega) (fun _ => ?_) (fun h => by rw [hpi] at h; cases h)
      rw [kidL_take _ _ _ _ hi] at hr'
      exact hr') (fun i hi _ hpi => by
      obtain ⟨hb, hLx⟩ := hl.1 _ (hmem i hi)
      refine Ev.up ?_
      simp only [impl_DigitMeasure.l1, rdP]
      simp only [if_pos (show (i : Int) < (l.length : Int) by omega), if_pos (show (0 : Int) ≤ (i : Int) by omega)]
      exact impl_dig_l2 hpr hws l (kidL p ws (l.take i)) d e i _ hb (by rw [hLx]; exact hL) (by have := hk i (by omega); omega) _ (by omega) (fun h => by rw [hpi] at h; cases h) (fun _ => rfl)) (fun hj => by
      have ha : (kidL p ws l).all wB = true := by rw [← kidL_all]; exact List.all_eq_true.2 fun j h => hj j (List.mem_range.1 h)
      refine Ev.up ?_
      simp only [impl_DigitMeasure.l1, if_neg (show ¬ (l.length : Int) < (l.length : Int) by omega)]
      rw [List.take_of_length_le (Nat.le_refl _), wid (n := e + 1) (by omega) (by omega)]
      exact hy ha)
  rw [kidL_all] at this
  cases ha : (kidL p ws l).all wB with
  | true => rw [ha] at this; exact this
  | false => rw [ha] at this; rw [hn ha]; exact this
include hpr hws in
theorem impl_dig_l0 (D : Int) (hD : 0 ≤ D ∧ D ≤ 6) : ∀ (d : Nat) (L : Int) (l : List S52), (d : Int) ≤ D → Lvl p L l → goodD p L d l.length → Ev (fun k => impl_DigitMeasure.l0 k p ws l D (D - (d : Int)) rL rT rD) (resI p rL rT rD ws d l) := by
  have hp := prime_lo hpr
  intro d
  induction d with
  | zero =>
    intro L l _ hl hg
    have hlen : l.length ≤ 64 := by have := hg.1; simp only [Int.pow_zero, Int.mul_one] at this; omega
    refine Ev.up ?_
    simp only [impl_DigitMeasure.l0, if_neg (show ¬ D - ((0 : Nat) : Int) < D by omega)]
    exact Ev.bind (impl_sorted_ev hl.2.2.1 (by omega) (fun x hx => (hl.1 x hx).1) hl.2.1) (Ev.now _)
  | succ d ih =>
    intro L l hd hl hg
    have hq := ipow_pos (p := p) (by omega) d
    have h64 : l.length * ws.length ≤ 64 := by
      have h1 := hg.1
      rw [Int.pow_succ, Int.mul_comm (p ^ d) p, ← Int.mul_assoc] at h1
      have h2 : (l.length : Int) * p * 1 ≤ (l.length : Int) * p * p ^ d := Int.mul_le_mul_of_nonneg_left hq (Int.mul_nonneg (by omega) (by omega))
      have h3 : ((l.length * ws.length : Nat) : Int) = (l.length : Int) * p := by rw [Int.natCast_mul, hws]
      omega
    refine Ev.up ?_
    simp only [impl_DigitMeasure.l0, if_pos (show D - ((d + 1 : Nat) : Int) < D by omega)]
    refine impl_dig_l1 hpr hws l D (D - ((d + 1 : Nat) : Int)) (by omega) hl (by have := hg.2; omega) h64 _ (fun ha => ?_) (fun ha => by unfold resI; rw [ha]; rfl)
    unfold resI
    rw [ha, show D - ((d + 1 : Nat) : Int) + 1 = D - (d : Int) by omega]
    refine ih (L + 1) _ (by omega) (kidL_lvl hl hws (by omega) (by have := hg.2; omega) ha) ⟨?_, by have := hg.2; omega⟩
    rw [kidL_len, Int.natCast_mul, hws]
    have h1 := hg.1
    rw [Int.pow_succ, Int.mul_comm (p ^ d) p, ← Int.mul_assoc] at h1
    exact h1
end

theorem spec_l02Children_ev {p L T D : Int} {x : S52} (h : pB p x = true) (n : Nat) (hn : (n : Int) = p) (hL : x.f0.f0 = L) (hT : x.f0.f1 = T) (hD : x.f0.f2 = D) : Ev (fun k => spec_l02Children.f k p L T D) (if L = 6 then ([], false) else ((List.range n).map (chP p x), true)) := by
  subst hL hT hD
  obtain ⟨hp, _⟩ := ball_parts h
  have hp7 := prime_hi hp
  have hp2 := prime_lo hp
  unfold spec_l02Children.f
  by_cases h6 : x.f0.f0 = 6
  · simp only [if_pos h6]
    refine Ev.up ?_
    simp only [spec_l02Children.l0, if_pos (show (0 : Int) < p by omega)]
    refine Ev.bind (spec_l01Child_ev h (by omega)) ?_
    unfold chW
    simp only [if_pos h6, Bool.false_eq_true, if_false]
    exact Ev.now _
  simp only [if_neg h6]
  have key : ∀ (d i : Nat), i + d = n → Ev (fun k => spec_l02Children.l0 k p ((List.range i).map (chP p x)) (i : Int) x.f0.f0 x.f0.f1 x.f0.f2) ((List.range n).map (chP p x), true) := by
    intro d
    induction d with
    | zero =>
      intro i hi
      obtain rfl : i = n := by omega
      refine Ev.up ?_
      simp only [spec_l02Children.l0, if_neg (show ¬ (i : Int) < p by omega)]
      exact Ev.now _
    | succ d ih =>
      intro i hi
      refine Ev.up ?_
      simp only [spec_l02Children.l0, if_pos (show (i : Int) < p by omega)]
      refine Ev.bind (spec_l01Child_ev h (by omega)) ?_
      unfold chW
      simp only [if_neg h6, if_true, if_pos (show ((List.range i).map (chP p x)).length < 5864062014805 by rw [List.length_map, List.length_range]; omega)]
      rw [wid (n := (i : Int) + 1) (by omega) (by omega)]
      have := ih (i + 1) (by omega)
      rw [List.range_succ, List.map_append] at this
      exact this
  exact key n 0 (by omega)
theorem chP_get {p : Int} {x : S52} {n j : Nat} (hj : j < n) : rd_T25 ((List.range n).map (chP p x)) (j : Int) = chP p x j := by
  show ((List.range n).map (chP p x)).getD j z25 = _
  rw [List.getD_eq_getElem?_getD, List.getElem?_eq_getElem (by simpa using hj)]
  simp
section
variable {p rL rT rD : Int} {ws : List Int} (hpr : primeB p = true) (hws : (ws.length : Int) = p)
include hpr hws in
theorem spec_dig_l3 (l acc : List S52) (d : Int) (i : Nat) (hi : i < l.length) (hl : l.length ≤ 64) (hacc : acc.length ≤ 4096) (r : Int × Int × Int × List S52 × Int)
    (hy : (kids p ws (l.getD i z52)).all wB = true → Ev (fun k => spec_DigitMeasure.l2 k p d ws l (acc ++ kids p ws (l.getD i z52)) ((i + 1 : Nat) : Int) rL rT rD) r) (hn : (kids p ws (l.getD i z52)).all wB = false → r = (0, 0, 0, [], 3)) :
    Ev (fun k => spec_DigitMeasure.l3 k p d ws l acc (i : Int) ((List.range ws.length).map (chP p (l.getD i z52))) 0 rL rT rD) r := by
  have hp := prime_lo hpr
  have hp7 := prime_hi hpr
  have hcl : ((List.range ws.length).map (chP p (l.getD i z52))).length = ws.length := by simp
  have := all_evp (fun k j => spec_DigitMeasure.l3 k p d ws l (acc ++ (kids p ws (l.getD i z52)).take j) (i : Int) ((List.range ws.length).map (chP p (l.getD i z52))) (j : Int) rL rT rD) ws.length (fun j => wB (kidP p ws (l.getD i z52) j)) r (0, 0, 0, [], 3) (fun j r' hj _ hpj hr' => by
      have hlen : (acc ++ (kids p ws (l.getD i z52)).take j).length < 4398046511104 := by rw [List.length_append, List.length_take, kids_len]; omega
      refine Ev.up ?_
      simp only [spec_DigitMeasure.l3]
      simp only [hcl, if_pos (show (j : Int) < (ws.length : Int) by omega), if_pos (show (0 : Int) ≤ (j : Int) by omega), if_pos (show (0 : Int) ≤ (i : Int) by omega), if_pos (show (i : Int) < (l.length : Int) by omega), chP_get hj, rdP]
      refine Ev.bindv (In_eq _ _ _) ?_
      rw [show decide (-1000000 ≤ wrap64 ((l.getD i z52).f1 * rd ws (j : Int)) ∧ wrap64 ((l.getD i z52).f1 * rd ws (j : Int)) ≤ 1000000) = true from hpj, wid (n := (j : Int) + 1) (by omega) (by omega)]
      simp only [if_true, if_pos hlen]
      rw [kids_take _ _ _ _ hj, ← List.append_assoc] at hr'
      exact hr') (fun j hj _ hpj => by
      refine Ev.up ?_
      simp only [spec_DigitMeasure.l3]
      simp only [hcl, if_pos (show (j : Int) < (ws.length : Int) by omega), if_pos (show (0 : Int) ≤ (j : Int) by omega), if_pos (show (0 : Int) ≤ (i : Int) by omega), if_pos (show (i : Int) < (l.length : Int) by omega), chP_get hj, rdP]
      refine Ev.bindv (In_eq _ _ _) ?_
      rw [show decide (-1000000 ≤ wrap64 ((l.getD i z52).f1 * rd ws (j : Int)) ∧ wrap64 ((l.getD i z52).f1 * rd ws (j : Int)) ≤ 1000000) = false from hpj]
      simp only [Bool.false_eq_true, if_false]
      exact Ev.now _) (fun hj => by
      have ha : (kids p ws (l.getD i z52)).all wB = true := by rw [← kids_all]; exact List.all_eq_true.2 fun j h => hj j (List.mem_range.1 h)
      refine Ev.up ?_
      simp only [spec_DigitMeasure.l3, hcl, if_neg (show ¬ (ws.length : Int) < (ws.length : Int) by omega)]
      rw [List.take_of_length_le (by rw [kids_len]; omega), wid (n := (i : Int) + 1) (by omega) (by omega)]
      exact hy ha)
  rw [kids_all] at this
  simp only [List.take_zero, List.append_nil] at this
  cases ha : (kids p ws (l.getD i z52)).all wB with
  | true => rw [ha] at this; exact this
  | false => rw [ha] at this; rw [hn ha]; exact this
include hpr hws in
theorem spec_dig_l1 : ∀ (d : Nat) (L : Int) (l : List S52), Lvl p L l → l.length ≤ 64 → d ≤ 6 → Ev (fun k => spec_DigitMeasure.l1 k p (d : Int) ws l rL rT rD) (if (l.length : Int) * p ^ d ≤ 64 ∧ L + (d : Int) ≤ 6 then resI p rL rT rD ws d l else (0, 0, 0, [], 3)) := by
  have hp := prime_lo hpr
  have hp7 := prime_hi hpr
  intro d
  induction d with
  | zero =>
    intro L l hl h64 _
    have hx := hl.1 _ (getD_mem hl.2.2.1)
    have hL6 := (ball_parts hx.1).2.1.2
    rw [hx.2] at hL6
    rw [if_pos ⟨by simp only [Int.pow_zero, Int.mul_one]; omega, by omega⟩]
    refine Ev.up ?_
    simp only [spec_DigitMeasure.l1, if_neg (show ¬ ((0 : Nat) : Int) > 0 by omega)]
    refine Ev.bind (spec_l08Told_ev (by omega) (fun x hx => (hl.1 x hx).1)) ?_
    unfold toldW
    rw [if_pos ⟨h64, hl.2.2.2⟩, isortN_sortW hl.2.1]
    exact Ev.now _
  | succ d ih =>
    intro L l hl h64 hd
    have hq := ipow_pos (p := p) (by omega) d
    have hpow : (l.length : Int) * p ^ (d + 1) = ((kidL p ws l).length : Int) * p ^ d := by
      rw [kidL_len, Int.natCast_mul, hws, Int.pow_succ, Int.mul_comm (p ^ d) p, ← Int.mul_assoc]
    have hks : ((kidL p ws l).length : Int) = (l.length : Int) * p := by rw [kidL_len, Int.natCast_mul, hws]
    have hmem : ∀ i, i < l.length → l.getD i z52 ∈ l := fun i hi => getD_mem hi
    have hkl : ∀ i, i ≤ l.length → ((kidL p ws (l.take i)).length : Int) = (i : Int) * p := fun i hi => by
      rw [kidL_len, List.length_take, Nat.min_eq_left hi, Int.natCast_mul, hws]
    refine Ev.up ?_
    simp only [spec_DigitMeasure.l1, if_pos (show ((d + 1 : Nat) : Int) > 0 by omega)]
    have := all_evp (fun k i => spec_DigitMeasure.l2 k p ((d + 1 : Nat) : Int) ws l (kidL p ws (l.take i)) (i : Int) rL rT rD) l.length (fun i => decide (L ≠ 6 ∧ ((i + 1 : Nat) : Int) * p ≤ 64) && (kids p ws (l.getD i z52)).all wB)
      (if (l.length : Int) * p ^ (d + 1) ≤ 64 ∧ L + ((d + 1 : Nat) : Int) ≤ 6 then resI p rL rT rD ws (d + 1) l else (0, 0, 0, [], 3)) (0, 0, 0, [], 3) (fun i r' hi _ hpi hr' => by
        rw [Bool.and_eq_true, decide_eq_true_eq] at hpi
        obtain ⟨⟨h6, h64'⟩, hk⟩ := hpi
        obtain ⟨hb, hLx⟩ := hl.1 _ (hmem i hi)
        have hk1 := hkl i (by omega)
        have hsp : ((i + 1 : Nat) : Int) * p = (i : Int) * p + p := by rw [Int.natCast_add, Int.add_mul]; simp
        refine Ev.up ?_
        simp only [spec_DigitMeasure.l2, rdP]
        simp only [if_pos (show (i : Int) < (l.length : Int) by omega), if_pos (show (0 : Int) ≤ (i : Int) by omega)]
        refine Ev.bind (spec_l02Children_ev hb ws.length hws rfl rfl rfl) ?_
        rw [if_neg (show ¬ (l.getD i z52).f0.f0 = 6 by rw [hLx]; exact h6)]
        simp only [if_true, List.length_map, List.length_range]
        rw [wid (n := ((kidL p ws (l.take i)).length : Int) + (ws.length : Int)) (by omega) (by omega), decide_eq_false (show ¬ ((kidL p ws (l.take i)).length : Int) + (ws.length : Int) > 64 by omega)]
        refine Ev.up ?_
        simp only [spec_DigitMeasure.j3, Bool.false_eq_true, if_false]
        refine spec_dig_l3 hpr hws l _ _ i hi h64 (by omega) r' (fun _ => ?_) (fun h => by rw [hk] at h; cases h)
        rw [kidL_take _ _ _ _ hi] at hr'
        exact hr') (fun i hi hbef hpi => by
        obtain ⟨hb, hLx⟩ := hl.1 _ (hmem i hi)
        have hk1 := hkl i (by omega)
        have hsp : ((i + 1 : Nat) : Int) * p = (i : Int) * p + p := by rw [Int.natCast_add, Int.add_mul]; simp
        have hi0 : (i : Int) * p ≤ 64 := by
          cases i with
          | zero => simp
          | succ j =>
            have := hbef j (by omega)
            rw [Bool.and_eq_true, decide_eq_true_eq] at this
            exact this.1.2
        refine Ev.up ?_
        simp only [spec_DigitMeasure.l2, rdP]
        simp only [if_pos (show (i : Int) < (l.length : Int) by omega), if_pos (show (0 : Int) ≤ (i : Int) by omega)]
        refine Ev.bind (spec_l02Children_ev hb ws.length hws rfl rfl rfl) ?_
        by_cases h6 : L = 6
        · rw [if_pos (show (l.getD i z52).f0.f0 = 6 by rw [hLx]; exact h6)]
          simp only [Bool.false_eq_true, if_false]
          refine Ev.up ?_
          simp only [spec_DigitMeasure.j3, if_true]
          exact Ev.now _
        · rw [if_neg (show ¬ (l.getD i z52).f0.f0 = 6 by rw [hLx]; exact h6)]
          simp only [if_true, List.length_map, List.length_range]
          rw [wid (n := ((kidL p ws (l.take i)).length : Int) + (ws.length : Int)) (by omega) (by omega)]
          refine Ev.up ?_
          by_cases hg : ((i + 1 : Nat) : Int) * p ≤ 64
          · rw [decide_eq_true (show L ≠ 6 ∧ ((i + 1 : Nat) : Int) * p ≤ 64 from ⟨h6, hg⟩), Bool.true_and] at hpi
            rw [decide_eq_false (show ¬ ((kidL p ws (l.take i)).length : Int) + (ws.length : Int) > 64 by omega)]
            simp only [spec_DigitMeasure.j3, Bool.false_eq_true, if_false]
            exact spec_dig_l3 hpr hws l _ _ i hi h64 (by omega) _ (fun h => by rw [hpi] at h; cases h) (fun _ => rfl)
          · rw [decide_eq_true (show ((kidL p ws (l.take i)).length : Int) + (ws.length : Int) > 64 by omega)]
            simp only [spec_DigitMeasure.j3, if_true]
            exact Ev.now _) (fun hj => by
        have hlast := hj (l.length - 1) (by have := hl.2.2.1; omega)
        rw [Bool.and_eq_true, decide_eq_true_eq, show l.length - 1 + 1 = l.length by have := hl.2.2.1; omega] at hlast
        obtain ⟨⟨h6, h64'⟩, _⟩ := hlast
        have ha : (kidL p ws l).all wB = true := by
          rw [← kidL_all]
          exact List.all_eq_true.2 fun j h => by
            have := hj j (List.mem_range.1 h)
            rw [Bool.and_eq_true] at this
            exact this.2
        refine Ev.up ?_
        simp only [spec_DigitMeasure.l2, if_neg (show ¬ (l.length : Int) < (l.length : Int) by omega)]
        rw [List.take_of_length_le (Nat.le_refl _), wid (n := ((d + 1 : Nat) : Int) - 1) (by omega) (by omega), show ((d + 1 : Nat) : Int) - 1 = (d : Int) by omega]
        have h := ih (L + 1) _ (kidL_lvl hl hws (by omega) h6 ha) (by omega) (by omega)
        rw [← hpow, show L + 1 + (d : Int) = L + ((d + 1 : Nat) : Int) by omega] at h
        unfold resI
        rw [ha]
        exact h)
    by_cases hall : ((List.range l.length).all fun i => decide (L ≠ 6 ∧ ((i + 1 : Nat) : Int) * p ≤ 64) && (kids p ws (l.getD i z52)).all wB) = true
    · rw [if_pos hall] at this; exact this
    · rw [if_neg hall] at this
      by_cases hg : (l.length : Int) * p ^ (d + 1) ≤ 64 ∧ L + ((d + 1 : Nat) : Int) ≤ 6
      · rw [if_pos hg]
        have h2 : (l.length : Int) * p ≤ 64 := by
          have h3 : ((l.length : Int) * p) * 1 ≤ ((l.length : Int) * p) * p ^ d := Int.mul_le_mul_of_nonneg_left hq (Int.mul_nonneg (by omega) (by omega))
          have h4 := hg.1
          rw [hpow, hks] at h4
          omega
        have hna : (kidL p ws l).all wB = false := by
          rw [Bool.eq_false_iff]
          intro ha
          refine hall (List.all_eq_true.2 fun i hi => ?_)
          rw [← kidL_all] at ha
          have hi' := List.mem_range.1 hi
          have h5 : ((i + 1 : Nat) : Int) * p ≤ (l.length : Int) * p := Int.mul_le_mul_of_nonneg_right (by omega) (by omega)
          rw [Bool.and_eq_true, decide_eq_true_eq]
          exact ⟨⟨by have := hg.2; omega, by omega⟩, List.all_eq_true.1 ha i hi⟩
        unfold resI
        rw [hna]
        exact this
      · rw [if_neg hg]; exact this
end
def digW (p a b c d : Int) (ws : List Int) : Int × Int × Int × List S52 × Int :=
  if ballB p a b c = true then (if (0 ≤ d ∧ d ≤ 6) ∧ (ws.length : Int) = p ∧ ws.all (fun w => decide (-1000000 ≤ w ∧ w ≤ 1000000)) = true then (if p ^ d.toNat ≤ 64 ∧ a + d ≤ 6 then resI p a b c ws d.toNat [⟨⟨a, b, c⟩, 1⟩] else (0, 0, 0, [], 3)) else (0, 0, 0, [], 2)) else (0, 0, 0, [], 1)
theorem lvl_one {p a b c : Int} (h : ballB p a b c = true) : Lvl p a [⟨⟨a, b, c⟩, 1⟩] := by
  refine ⟨fun x hx => ?_, by simp, by simp, by simp [wB]⟩
  rw [List.mem_singleton] at hx
  rw [hx]; exact ⟨h, rfl⟩
theorem spec_DigitMeasure_ev (p a b c d : Int) (ws : List Int) (hl : ws.length ≤ 1048576) : Ev (fun k => spec_DigitMeasure.f k p a b c d ws) (digW p a b c d ws) := by
  unfold spec_DigitMeasure.f digW
  refine Ev.bind (spec_l01Code_ev p _ (by simp)) ?_
  rw [codeB_one]
  cases hb : ballB p a b c with
  | false => simp only [Bool.false_eq_true, if_false, if_neg (show ¬ (1 : Int) = 0 by decide)]; exact Ev.now _
  | true =>
    simp only [if_true]
    refine Ev.bindv (In_eq _ _ _) ?_
    by_cases hd : 0 ≤ d ∧ d ≤ 6
    · rw [decide_eq_true hd]
      simp only [if_true]
      by_cases hw : (ws.length : Int) = p
      · simp only [if_pos hw]
        have hpr := (ball_parts hb).1
        have := all_evp (fun k i => spec_DigitMeasure.l0 k p d ws (i : Int) a b c) ws.length (fun i => decide (-1000000 ≤ rd ws (i : Int) ∧ rd ws (i : Int) ≤ 1000000)) (if p ^ d.toNat ≤ 64 ∧ a + d ≤ 6 then resI p a b c ws d.toNat [⟨⟨a, b, c⟩, 1⟩] else (0, 0, 0, [], 3)) (0, 0, 0, [], 2) (fun i r hi _ hpi hr => by
            refine Ev.up ?_
            simp only [spec_DigitMeasure.l0, if_pos (show (i : Int) < (ws.length : Int) by omega), if_pos (show (0 : Int) ≤ (i : Int) by omega)]
            refine Ev.bindv (In_eq _ _ _) ?_
            rw [hpi, wid (n := (i : Int) + 1) (by omega) (by omega)]
            simp only [if_true]
            exact hr) (fun i hi _ hpi => by
            refine Ev.up ?_
            simp only [spec_DigitMeasure.l0, if_pos (show (i : Int) < (ws.length : Int) by omega), if_pos (show (0 : Int) ≤ (i : Int) by omega)]
            refine Ev.bindv (In_eq _ _ _) ?_
            rw [hpi]
            simp only [Bool.false_eq_true, if_false]
            exact Ev.now _) (fun _ => by
            refine Ev.up ?_
            simp only [spec_DigitMeasure.l0, if_neg (show ¬ (ws.length : Int) < (ws.length : Int) by omega)]
            have h := spec_dig_l1 (rL := a) (rT := b) (rD := c) hpr hw d.toNat a _ (lvl_one hb) (by simp) (by omega)
            rw [Int.toNat_of_nonneg hd.1, show (([⟨⟨a, b, c⟩, 1⟩] : List S52).length : Int) * p ^ d.toNat = p ^ d.toNat by simp] at h
            exact h)
        rw [all_range_rd ws (fun w => decide (-1000000 ≤ w ∧ w ≤ 1000000))] at this
        by_cases ha : ws.all (fun w => decide (-1000000 ≤ w ∧ w ≤ 1000000)) = true
        · rw [if_pos ha] at this; rw [if_pos ⟨hd, hw, ha⟩]; exact this
        · rw [if_neg ha] at this; rw [if_neg (fun h => ha h.2.2)]; exact this
      · simp only [if_neg hw]
        rw [if_neg (fun h => hw h.2.1)]
        exact Ev.now _
    · rw [decide_eq_false hd]
      simp only [Bool.false_eq_true, if_false]
      rw [if_neg (fun h => hd h.1)]
      exact Ev.now _
theorem impl_DigitMeasure_ev (p a b c d : Int) (ws : List Int) (hl : ws.length ≤ 1048576) : Ev (fun k => impl_DigitMeasure.f k p a b c d ws) (digW p a b c d ws) := by
  unfold impl_DigitMeasure.f digW
  refine Ev.bind (impl_IsBall_ev _ _ _ _) ?_
  cases hb : ballB p a b c with
  | false => simp only [Bool.false_eq_true, if_false]; exact Ev.now _
  | true =>
    simp only [if_true]
    have no : Ev (fun k => impl_DigitMeasure.j0 k p d ws true a b c) (0, 0, 0, [], 2) := by
      refine Ev.up ?_
      simp only [impl_DigitMeasure.j0, if_true]
      exact Ev.now _
    by_cases h0 : d < 0
    · simp only [if_pos h0]; rw [if_neg (fun h => by omega)]; exact no
    by_cases h6 : d > 6
    · simp only [if_neg h0, if_pos h6]; rw [if_neg (fun h => by omega)]; exact no
    by_cases hw : (ws.length : Int) = p
    · simp only [if_neg h0, if_neg h6, if_pos hw]
      have hpr := (ball_parts hb).1
      have hL := (ball_parts hb).2.1
      unfold impl_isWeight.f
      simp only [Option.bind_assoc]
      refine Ev.bind (impl_within_ev 1000000 ws (by omega) (by omega) (by omega)) ?_
      simp only [Option.bind_some]
      cases ha : ws.all (fun w => decide (-1000000 ≤ w ∧ w ≤ 1000000)) with
      | false => rw [if_neg (fun h => by cases h.2.2)]; exact no
      | true =>
        rw [if_pos ⟨⟨by omega, by omega⟩, hw, rfl⟩]
        refine Ev.up ?_
        simp only [impl_DigitMeasure.j0, Bool.not_true, Bool.false_eq_true, if_false]
        refine Ev.bind (impl_power_ev p d (by omega)) ?_
        rw [powW_prime hpr _ (by omega), wid (n := a + d) (by omega) (by omega)]
        by_cases h64 : p ^ d.toNat > 64
        · simp only [if_pos h64]
          rw [if_neg (fun h => by omega)]
          exact Ev.now _
        · simp only [if_neg h64]
          refine Ev.bindv (impl_isLevel_eq _) ?_
          by_cases hlv : a + d ≤ 6
          · rw [decide_eq_true (show -6 ≤ a + d ∧ a + d ≤ 6 by omega), if_pos ⟨by omega, hlv⟩]
            simp only [if_true]
            have h := impl_dig_l0 (rL := a) (rT := b) (rD := c) hpr hw d ⟨by omega, by omega⟩ d.toNat a _ (by omega) (lvl_one hb) ⟨by simp only [List.length_singleton]; omega, by omega⟩
            rw [show d - (d.toNat : Int) = 0 by omega] at h
            exact h
          · rw [decide_eq_false (show ¬ (-6 ≤ a + d ∧ a + d ≤ 6) by omega), if_neg (fun h => hlv h.2)]
            simp only [Bool.false_eq_true, if_false]
            exact Ev.now _
    · simp only [if_neg h0, if_neg h6, if_neg hw]; rw [if_neg (fun h => hw h.2.1)]; exact no
theorem resI_len (p rL rT rD : Int) (ws : List Int) : ∀ (d : Nat) (l : List S52), (resI p rL rT rD ws d l).2.2.2.1.length ≤ l.length * ws.length ^ d := by
  intro d
  induction d with
  | zero => intro l; unfold resI; rw [sortW_len]; simp
  | succ d ih =>
    intro l
    unfold resI
    by_cases h : (kidL p ws l).all wB = true
    · rw [if_pos h]
      refine Nat.le_trans (ih _) ?_
      rw [kidL_len, Nat.mul_assoc, Nat.pow_succ, Nat.mul_comm (ws.length ^ d)]
      exact Nat.le_refl _
    · rw [if_neg h]; exact Nat.zero_le _
theorem digW_len (p a b c d : Int) (ws : List Int) : (digW p a b c d ws).2.2.2.1.length ≤ 64 := by
  unfold digW
  split
  · split
    · rename_i h
      split
      · rename_i h2
        refine Nat.le_trans (resI_len _ _ _ _ _ _ _) ?_
        have := h2.1
        rw [← h.2.1, ← Int.natCast_pow] at this
        simp only [List.length_singleton, Nat.one_mul]
        omega
      · exact Nat.zero_le _
    · exact Nat.zero_le _
  · exact Nat.zero_le _

theorem laws_toBall_eq (a b c : Int) : laws_toBall.f a b c = some (a, b, c) := by simp [laws_toBall.f]
theorem laws_eqBall_eq (a b c : Int) : laws_eqBall.f a b c a b c = some true := by simp [laws_eqBall.f]
theorem laws_eqPiece_eq (a b c d : Int) : laws_eqPiece.f a b c d a b c d = some true := by simp only [laws_eqPiece.f, laws_eqBall_eq, Option.bind_some, if_true]
theorem laws_eqPieceS_ev (l : List S52) (hl : l.length ≤ 4611686018427387904) : Ev (fun k => laws_eqPieceS.f k l l) true := by
  have key : ∀ (d i : Nat), i + d = l.length → Ev (fun k => laws_eqPieceS.l0 k l l i) true := by
    intro d
    induction d with
    | zero => intro i hi; exact Ev.step (f := fun _ => some true) (fun k => by simp only [laws_eqPieceS.l0]; rw [if_neg (by omega)]) (Ev.now _)
    | succ d ih =>
      intro i hi
      refine Ev.step (f := fun k => laws_eqPieceS.l0 k l l ((i + 1 : Nat) : Int)) (fun k => ?_) (ih (i + 1) (by omega))
      simp only [laws_eqPieceS.l0, laws_eqPiece_eq, Option.bind_some, if_true]
      rw [if_pos (by omega), if_pos (by omega), if_pos (by omega), wid (n := (i : Int) + 1) (by omega) (by omega)]; rfl
  refine Ev.congr (f := fun k => laws_eqPieceS.l0 k l l 0) (fun k => ?_) (key l.length 0 (by omega))
  unfold laws_eqPieceS.f; rw [if_pos rfl]
theorem laws_eqMeasure_ev (a b c : Int) (l : List S52) (hl : l.length ≤ 4611686018427387904) : Ev (fun k => laws_eqMeasure.f k a b c l a b c l) true := by
  unfold laws_eqMeasure.f
  refine Ev.bindv (laws_eqBall_eq a b c) ?_
  simp only [if_true]
  refine Ev.bind (laws_eqPieceS_ev l hl) ?_
  simp only [if_true]
  exact Ev.now _
theorem rdPi_set {x : List S52} {i : Nat} (h : i < x.length) (v : S52) : rd_T52 (x.set i v) (i : Int) = v := by
  show (x.set i v).getD i z52 = v
  rw [List.getD_eq_getElem?_getD, List.getElem?_set_self h]; rfl
def mkP (j : Nat) : S52 := ⟨⟨1 + 4 * (j : Int), 1 + 4 * (j : Int) + 1, 1 + 4 * (j : Int) + 1 + 1⟩, 1 + 4 * (j : Int) + 1 + 1 + 1⟩
theorem getDP_set {x : List S52} {i j : Nat} (h : i < x.length) (v : S52) : (x.set i v).getD j z52 = if j = i then v else x.getD j z52 := by
  rw [List.getD_eq_getElem?_getD, List.getElem?_set]
  by_cases e : i = j
  · rw [if_pos e, if_pos e.symm, if_pos h]; rfl
  · rw [if_neg e, if_neg (fun h => e h.symm), List.getD_eq_getElem?_getD]
theorem markMeasure_held (a b c : Int) (l : List S52) (hl : l.length ≤ 1048576) : ∃ x, Ev (fun k => laws_markMeasure.f k a b c l 1) (1 + 4 * (l.length : Int), x) ∧ ∀ a' b' c', Ev (fun k => laws_heldMeasure.f k a' b' c' x 1) (1 + 4 * (l.length : Int)) := by
  have key : ∀ (d i : Nat) (x : List S52), i + d = l.length → x.length = l.length → (∀ j, j < i → x.getD j z52 = mkP j) → ∃ x', (x'.length = l.length ∧ ∀ j, j < l.length → x'.getD j z52 = mkP j) ∧ Ev (fun k => laws_markPieceS.l0 k x (1 + 4 * (i : Int)) i) (1 + 4 * (l.length : Int), x') := by
    intro d
    induction d with
    | zero =>
      intro i x hi hx hj
      obtain rfl : i = l.length := by omega
      refine ⟨x, ⟨hx, hj⟩, Ev.up ?_⟩
      simp only [laws_markPieceS.l0, if_neg (show ¬ (l.length : Int) < (x.length : Int) by omega)]
      exact Ev.now _
    | succ d ih =>
      intro i x hi hx hj
      have hix : i < x.length := by omega
      obtain ⟨x', q', h'⟩ := ih (i + 1) (x.set i (mkP i)) (by omega) (by rw [List.length_set]; exact hx) (fun j hj2 => by
        rw [getDP_set hix]
        by_cases e : j = i
        · rw [if_pos e, e]
        · rw [if_neg e]; exact hj j (by omega))
      refine ⟨x', q', Ev.up ?_⟩
      simp only [laws_markPieceS.l0, if_pos (show (i : Int) < (x.length : Int) by omega), if_pos (show (0 : Int) ≤ (i : Int) by omega), Option.bind_some, Int.toNat_natCast]
      rw [wid (n := 1 + 4 * (i : Int) + 1) (by omega) (by omega), wid (n := 1 + 4 * (i : Int) + 1 + 1) (by omega) (by omega), wid (n := 1 + 4 * (i : Int) + 1 + 1 + 1) (by omega) (by omega), wid (n := 1 + 4 * (i : Int) + 1 + 1 + 1 + 1) (by omega) (by omega), wid (n := (i : Int) + 1) (by omega) (by omega)]
      simp only [rdPi_set hix, List.set_set]
      rw [show 1 + 4 * (i : Int) + 1 + 1 + 1 + 1 = 1 + 4 * ((i + 1 : Nat) : Int) by omega]
      exact h'
  obtain ⟨x, ⟨x1, x2⟩, hx⟩ := key l.length 0 l (by omega) rfl (fun j hj => absurd hj (by omega))
  have held : ∀ (d i : Nat), i + d = x.length → Ev (fun k => laws_heldPieceS.l0 k x (1 + 4 * (i : Int)) i) (1 + 4 * (x.length : Int)) := by
    intro d
    induction d with
    | zero =>
      intro i hi
      obtain rfl : i = x.length := by omega
      refine Ev.up ?_
      simp only [laws_heldPieceS.l0, if_neg (show ¬ (x.length : Int) < (x.length : Int) by omega)]
      exact Ev.now _
    | succ d ih =>
      intro i hi
      have e : rd_T52 x (i : Int) = mkP i := x2 i (by omega)
      refine Ev.up ?_
      simp only [laws_heldPieceS.l0, if_pos (show (i : Int) < (x.length : Int) by omega), if_pos (show (0 : Int) ≤ (i : Int) by omega), e]
      rw [wid (n := 1 + 4 * (i : Int) + 1) (by omega) (by omega), wid (n := 1 + 4 * (i : Int) + 1 + 1) (by omega) (by omega), wid (n := 1 + 4 * (i : Int) + 1 + 1 + 1) (by omega) (by omega), wid (n := 1 + 4 * (i : Int) + 1 + 1 + 1 + 1) (by omega) (by omega), wid (n := (i : Int) + 1) (by omega) (by omega)]
      unfold mkP
      simp only [if_true]
      rw [show 1 + 4 * (i : Int) + 1 + 1 + 1 + 1 = 1 + 4 * ((i + 1 : Nat) : Int) by omega]
      exact ih (i + 1) (by omega)
  refine ⟨x, ?_, fun a' b' c' => ?_⟩
  · unfold laws_markMeasure.f
    exact Ev.bind hx (Ev.now _)
  · unfold laws_heldMeasure.f
    refine Ev.bind (held x.length 0 (by omega)) ?_
    rw [x1]
    simp only [if_neg (show ¬ 1 + 4 * (l.length : Int) < 0 by omega)]
    exact Ev.now _

theorem laws_toInt64S_ev (l : List Int) (hl : l.length ≤ 35184372088832) : Ev (fun k => laws_toInt64S.f k l) l := by
  refine Ev.congr (f := fun k => laws_toInt64S.l0 k l (List.replicate l.length 0) 0) (fun k => ?_) ?_
  · unfold laws_toInt64S.f
    rw [if_pos (by omega), if_pos (by rw [Int.toNat_natCast]; exact hl), Int.toNat_natCast]
  · refine copy_ev (fun k dst i => laws_toInt64S.l0 k l dst i) l (fun i => rd l i) ?_ ?_ (fun i h => rd_nat l i h) _ (by simp)
    · intro k dst i hi hd
      simp only [laws_toInt64S.l0]
      rw [if_pos (by omega), if_pos (by omega), if_pos (by omega), Int.toNat_natCast, wid (by omega) (by omega)]
    · intro k dst i hi hd
      simp only [laws_toInt64S.l0]
      rw [if_neg (by omega)]
theorem laws_eqInt64S_ev (l : List Int) (hl : l.length ≤ 35184372088832) : Ev (fun k => laws_eqInt64S.f k l l) true := by
  have key : ∀ (d i : Nat), i + d = l.length → Ev (fun k => laws_eqInt64S.l0 k l l i) true := by
    intro d
    induction d with
    | zero => intro i hi; exact Ev.step (f := fun _ => some true) (fun k => by simp only [laws_eqInt64S.l0]; rw [if_neg (by omega)]) (Ev.now _)
    | succ d ih =>
      intro i hi
      refine Ev.step (f := fun k => laws_eqInt64S.l0 k l l ((i + 1 : Nat) : Int)) (fun k => ?_) (ih (i + 1) (by omega))
      simp only [laws_eqInt64S.l0]
      rw [if_pos (by omega), if_pos (by omega), if_pos (by omega), if_pos trivial, wid (by omega) (by omega)]; rfl
  refine Ev.congr (f := fun k => laws_eqInt64S.l0 k l l 0) (fun k => ?_) (key l.length 0 (by omega))
  unfold laws_eqInt64S.f; rw [if_pos rfl]

theorem markInt64S_ev (l : List Int) (hl : l.length ≤ 1048576) (s : Int) (h0 : 0 ≤ s) (h1 : s ≤ 1073741824) : ∃ x, Ev (fun k => laws_markInt64S.f k l s) (s + (l.length : Int), x) := by
  unfold laws_markInt64S.f
  have key : ∀ (d i : Nat) (l' : List Int), i + d = l.length → l'.length = l.length → ∃ x, Ev (fun k => laws_markInt64S.l0 k l' (s + (i : Int)) (i : Int)) (s + (l.length : Int), x) := by
    intro d
    induction d with
    | zero =>
      intro i l' hi hl'
      obtain rfl : i = l.length := by omega
      refine ⟨l', Ev.up ?_⟩
      simp only [laws_markInt64S.l0, if_neg (show ¬ (l.length : Int) < (l'.length : Int) by omega)]
      exact Ev.now _
    | succ d ih =>
      intro i l' hi hl'
      obtain ⟨x, hx⟩ := ih (i + 1) (l'.set i (s + (i : Int))) (by omega) (by rw [List.length_set]; exact hl')
      refine ⟨x, Ev.up ?_⟩
      simp only [laws_markInt64S.l0, if_pos (show (i : Int) < (l'.length : Int) by omega), if_pos (show (0 : Int) ≤ (i : Int) by omega), Int.toNat_natCast]
      rw [wid (n := s + (i : Int) + 1) (by omega) (by omega), wid (n := (i : Int) + 1) (by omega) (by omega), show s + (i : Int) + 1 = s + ((i + 1 : Nat) : Int) by omega]
      exact hx
  have := key l.length 0 l (by omega) rfl
  simpa using this

theorem FnExactDigitMeasure : laws_FnExactDigitMeasure.Pure := by
  intro p a b c d ws _ _ _ _ _ hmax _
  refine Ev.rounds ?_
  unfold laws_FnExactDigitMeasure.f
  by_cases hbig : (ws.length : Int) > 1048576
  · simp only [if_pos hbig]; exact Ev.now _
  simp only [if_neg hbig]
  have hto := laws_toInt64S_ev ws (by omega)
  have hs := spec_DigitMeasure_ev p a b c d ws (by omega)
  have hi := impl_DigitMeasure_ev p a b c d ws (by omega)
  have hrl := digW_len p a b c d ws
  generalize digW p a b c d ws = R at hs hi hrl
  obtain ⟨u, v, w, q, code⟩ := R
  have hq : q.length ≤ 64 := hrl
  have heq := laws_eqMeasure_ev u v w q (by omega)
  obtain ⟨x1, hx1⟩ := markInt64S_ev ws (by omega) 1 (by omega) (by omega)
  obtain ⟨x3, hx3, hheld⟩ := markMeasure_held u v w q (by omega)
  refine Ev.bindv (laws_toBall_eq a b c) ?_
  refine Ev.bind hto (Ev.bind hs (Ev.bind hto ?_))
  refine Ev.bindv (laws_toBall_eq a b c) ?_
  refine Ev.bind hi (Ev.bind heq ?_)
  simp only [if_true]
  refine Ev.bind hto (Ev.bind (laws_eqInt64S_ev ws (by omega)) ?_)
  simp only [if_true]
  refine Ev.bind hx1 ?_
  simp only [if_neg (show ¬ 1 + (ws.length : Int) < 0 by omega)]
  refine Ev.bind heq ?_
  simp only [if_true]
  refine Ev.bind hx3 (Ev.bind (hheld u v w) ?_)
  simp only [if_neg (show ¬ 1 + 4 * (q.length : Int) < 0 by omega), if_true]
  refine Ev.bindv (laws_toBall_eq a b c) ?_
  refine Ev.bind hto (Ev.bind hi (Ev.bind heq ?_))
  simp only [if_true]
  refine Ev.bind (hheld u v w) ?_
  simp only [if_neg (show ¬ 1 + 4 * (q.length : Int) < 0 by omega), if_true]
  exact Ev.now _

end Go.Proofs.Ytbldceikdajdlaa.Pure
