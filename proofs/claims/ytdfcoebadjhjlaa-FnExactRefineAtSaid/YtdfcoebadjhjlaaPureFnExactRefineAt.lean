/- For every p, measure, ball and weights, RefineAt of the program and of the reference return the same measure and code, leave the measure and the weights alone and return a measure of its own; no condition beyond the row's. -/
import Derived.Test.YtdfcoebadjhjlaaQHx84
namespace Go.Proofs.Ytdfcoebadjhjlaa.Pure
open Go.RowKit Go.Proofs.Ytdfcoebadjhjlaa.QH Go.Proofs.YtdfcoebadjhjlaaW.PrintWords Go.Proofs.YtdfcoebadjhjlaaW.PrintLast
set_option linter.unusedVariables false
set_option linter.unusedSimpArgs false
set_option linter.unusedSectionVars false

theorem wid {n : Int} (h0 : -9223372036854775808 ≤ n) (h1 : n ≤ 9223372036854775807) : wrap64 n = n := by unfold wrap64; omega
theorem Ev.val {α : Type} {o : Option α} {r : α} (h : o = some r) : Ev (fun _ => o) r := ⟨0, fun _ _ => h⟩
theorem Ev.bindv {α β : Type} {o : Option α} {f : Nat → α → Option β} {a : α} {r : β} (h : o = some a) (k : Ev (fun n => f n a) r) : Ev (fun n => o.bind (f n)) r := by
  subst h; exact k

theorem Ev.up {α : Type} {g : Nat → Option α} {r : α} (h : Ev (fun k => g (k + 1)) r) : Ev g r := Ev.step (f := fun k => g (k + 1)) (fun _ => rfl) h

def powW (p : Int) : Nat → Int → Int
  | 0, acc => acc
  | n + 1, acc => powW p n (wrap64 (acc * p))

def primeB (p : Int) : Bool := p == 2 || (p == 3 || (p == 5 || p == 7))
theorem prime_cases {p : Int} (h : primeB p = true) : p = 2 ∨ p = 3 ∨ p = 5 ∨ p = 7 := by
  simpa [primeB] using h
theorem prime_lo {p : Int} (h : primeB p = true) : 2 ≤ p := by rcases prime_cases h with h | h | h | h <;> omega
theorem prime_hi {p : Int} (h : primeB p = true) : p ≤ 7 := by rcases prime_cases h with h | h | h | h <;> omega

theorem ipow_pos {p : Int} (hp : 1 ≤ p) (n : Nat) : (1 : Int) ≤ p ^ n := by
  have := Int.pow_pos (n := p) (m := n) (by omega)
  omega
theorem ipow_mono {p : Int} (hp : 1 ≤ p) {m n : Nat} (h : m ≤ n) : p ^ m ≤ p ^ n := by
  obtain ⟨d, rfl⟩ : ∃ d, n = m + d := ⟨n - m, by omega⟩
  rw [Int.pow_add]
  have h1 := ipow_pos hp m
  have h2 := ipow_pos hp d
  have := Int.mul_le_mul_of_nonneg_left h2 (show 0 ≤ p ^ m by omega)
  rwa [Int.mul_one] at this
theorem powW_fit (p : Int) (hp : 1 ≤ p) (n : Nat) : ∀ (acc : Int), 0 ≤ acc → acc * p ^ n ≤ 9223372036854775807 → powW p n acc = acc * p ^ n := by
  induction n with
  | zero => intro acc _ _; simp [powW]
  | succ n ih =>
    intro acc h0 h
    have hpn : (1 : Int) ≤ p ^ n := ipow_pos hp n
    have e : acc * p ^ (n + 1) = acc * p * p ^ n := by rw [Int.pow_succ, Int.mul_comm (p ^ n) p, ← Int.mul_assoc]
    have h1 : 0 ≤ acc * p := Int.mul_nonneg h0 (by omega)
    have h2 : acc * p ≤ acc * p * p ^ n := by
      have := Int.mul_le_mul_of_nonneg_left hpn h1
      rwa [Int.mul_one] at this
    simp only [powW]
    rw [wid (by omega) (by omega), ih _ h1 (by omega), e]
theorem pow_le_top {p : Int} (h : primeB p = true) (n : Nat) (hn : n ≤ 22) : p ^ n ≤ 9223372036854775807 := by
  have hp := prime_lo h
  have h1 : p ^ n ≤ p ^ 22 := ipow_mono (by omega) hn
  have h2 : p ^ 22 ≤ 9223372036854775807 := by
    rcases prime_cases h with rfl | rfl | rfl | rfl <;> decide
  omega
theorem powW_prime {p : Int} (h : primeB p = true) (n : Nat) (hn : n ≤ 22) : powW p n 1 = p ^ n := by
  have hp := prime_lo h
  rw [powW_fit p (by omega) n 1 (by omega) (by rw [Int.one_mul]; exact pow_le_top h n hn), Int.one_mul]

def ballB (p L T D : Int) : Bool :=
  primeB p && (decide (-6 ≤ L ∧ L ≤ 6) && (decide (0 ≤ D ∧ D ≤ 6) && (if L + D ≤ 0 then T == 0 && D == 0 else decide (0 ≤ T ∧ T < p ^ (L + D).toNat) && (D == 0 || !(Int.tmod T p == 0)))))

def valF (p : Int) : Nat → Int → Nat
  | 0, _ => 0
  | f + 1, n => if n % p = 0 then valF p f (n / p) + 1 else 0
def val (p n : Int) : Nat := valF p n.natAbs n
theorem valF_spec {p : Int} (hp : 2 ≤ p) (f : Nat) : ∀ n : Int, n ≠ 0 → n.natAbs ≤ f → ∃ u, n = p ^ (valF p f n) * u ∧ ¬ p ∣ u := by
  induction f with
  | zero => intro n h0 hf; omega
  | succ f ih =>
    intro n h0 hf
    unfold valF
    by_cases h : n % p = 0
    · rw [if_pos h]
      obtain ⟨q, hq⟩ := Int.dvd_of_emod_eq_zero h
      have hq0 : q ≠ 0 := by intro e; subst e; simp at hq; exact h0 hq
      have hdiv : n / p = q := by rw [hq]; exact Int.mul_ediv_cancel_left q (by omega)
      rw [hdiv]
      have hlt : q.natAbs ≤ f := by
        have : n.natAbs = p.natAbs * q.natAbs := by rw [hq, Int.natAbs_mul]
        have h2 : 2 * q.natAbs ≤ p.natAbs * q.natAbs := Nat.mul_le_mul_right _ (by omega)
        omega
      obtain ⟨u, hu, hn⟩ := ih q hq0 hlt
      refine ⟨u, ?_, hn⟩
      conv => lhs; rw [hq, hu]
      rw [Int.pow_succ', Int.mul_assoc]
    · rw [if_neg h]
      exact ⟨n, by simp, fun hd => h (Int.emod_eq_zero_of_dvd hd)⟩
theorem val_spec {p n : Int} (hp : 2 ≤ p) (h : n ≠ 0) : ∃ u, n = p ^ (val p n) * u ∧ ¬ p ∣ u := valF_spec hp _ n h (Nat.le_refl _)
theorem pow_unique {p u u' : Int} (hp : 2 ≤ p) (hu : ¬ p ∣ u) (hu' : ¬ p ∣ u') : ∀ (v v' : Nat), p ^ v * u = p ^ v' * u' → v = v' := by
  have key : ∀ (v d : Nat) (x x' : Int), ¬ p ∣ x → p ^ v * x = p ^ (v + (d + 1)) * x' → False := by
    intro v d x x' hx h
    rw [Int.pow_add, Int.mul_assoc] at h
    have h2 : x = p ^ (d + 1) * x' := Int.eq_of_mul_eq_mul_left (Int.pow_ne_zero (by omega)) h
    apply hx
    rw [h2, Int.pow_succ', Int.mul_assoc]
    exact Int.dvd_mul_right _ _
  intro v v' h
  rcases Nat.lt_trichotomy v v' with h1 | h1 | h1
  · obtain ⟨d, rfl⟩ : ∃ d, v' = v + (d + 1) := ⟨v' - v - 1, by omega⟩
    exact (key v d u u' hu h).elim
  · exact h1
  · obtain ⟨d, rfl⟩ : ∃ d, v = v' + (d + 1) := ⟨v - v' - 1, by omega⟩
    exact (key v' d u' u hu' h.symm).elim
theorem val_eq {p n u : Int} {v : Nat} (hp : 2 ≤ p) (h : n = p ^ v * u) (hu : ¬ p ∣ u) : val p n = v := by
  have hn : n ≠ 0 := by
    intro e; rw [e] at h
    rcases Int.mul_eq_zero.1 h.symm with h | h
    · exact Int.pow_ne_zero (by omega) h
    · exact hu (by rw [h]; exact Int.dvd_zero p)
  obtain ⟨u', h', hu'⟩ := val_spec hp hn
  exact pow_unique hp hu' hu _ _ (h'.symm.trans h)
theorem val_pow_mul {p e : Int} (j : Nat) (hp : 2 ≤ p) (he : e ≠ 0) : val p (p ^ j * e) = j + val p e := by
  obtain ⟨u, h, hu⟩ := val_spec hp he
  refine val_eq hp (u := u) ?_ hu
  conv => lhs; rw [h]
  rw [Int.pow_add, Int.mul_assoc]
theorem val_dvd {p n : Int} (hp : 2 ≤ p) (h : n ≠ 0) (j : Nat) : p ^ j ∣ n ↔ j ≤ val p n := by
  obtain ⟨u, hu, hn⟩ := val_spec hp h
  constructor
  · rintro ⟨q, hq⟩
    rcases Nat.lt_or_ge (val p n) j with h1 | h1
    · exfalso
      obtain ⟨d, hd⟩ : ∃ d, j = val p n + (d + 1) := ⟨j - val p n - 1, by omega⟩
      have h2 : p ^ (val p n) * u = p ^ (val p n) * (p ^ (d + 1) * q) := by
        have e : n = p ^ (val p n) * (p ^ (d + 1) * q) := by rw [← Int.mul_assoc, ← Int.pow_add, ← hd]; exact hq
        exact hu.symm.trans e
      have h3 := Int.eq_of_mul_eq_mul_left (Int.pow_ne_zero (by omega)) h2
      apply hn
      rw [h3, Int.pow_succ', Int.mul_assoc]
      exact Int.dvd_mul_right _ _
    · exact h1
  · intro h1
    obtain ⟨d, hd⟩ : ∃ d, val p n = j + d := ⟨val p n - j, by omega⟩
    refine ⟨p ^ d * u, ?_⟩
    conv => lhs; rw [hu, hd, Int.pow_add, Int.mul_assoc]
theorem val_le_of_lt {p n : Int} (hp : 2 ≤ p) (h : n ≠ 0) (j : Nat) (hlt : n.natAbs < 2 ^ j) : val p n < j := by
  rcases Nat.lt_or_ge (val p n) j with h1 | h1
  · exact h1
  · exfalso
    obtain ⟨q, hq⟩ := (val_dvd hp h j).2 h1
    have hq0 : q ≠ 0 := by intro e; subst e; simp at hq; exact h hq
    have : n.natAbs = p.natAbs ^ j * q.natAbs := by rw [hq, Int.natAbs_mul, Int.natAbs_pow]
    have h2 : 2 ^ j ≤ p.natAbs ^ j := Nat.pow_le_pow_left (by omega) j
    have h3 : p.natAbs ^ j * 1 ≤ p.natAbs ^ j * q.natAbs := Nat.mul_le_mul_left _ (by omega)
    omega
theorem tdiv_bdv {x M : Int} (g : Int) (hx : -M ≤ x ∧ x ≤ M) : -M ≤ Int.tdiv x g ∧ Int.tdiv x g ≤ M := by
  have := Int.natAbs_tdiv_le_natAbs x g
  omega

theorem pow_13 {p : Int} (hp : primeB p = true) (n : Nat) (h : n ≤ 12) : p ^ n ≤ 13841287201 := by
  have hp2 := prime_lo hp
  have h1 : p ^ n ≤ p ^ 12 := ipow_mono (by omega) h
  have h2 : p ^ 12 ≤ 13841287201 := by rcases prime_cases hp with rfl | rfl | rfl | rfl <;> decide
  omega
def markOf (p T D : Int) : Int := T * p ^ (6 - D).toNat
def ofM (p L X : Int) : Int × Int × Int :=
  let x := X % p ^ (L + 6).toNat
  let dn : Int := if x = 0 then 0 else if (val p x : Int) < 6 then 6 - val p x else 0
  (L, x / p ^ (6 - dn).toNat, dn)
theorem ofM_of {p L X T D : Int} (hp : 2 ≤ p) (hx : X % p ^ (L + 6).toNat = T * p ^ (6 - D).toNat) (hD : 0 ≤ D ∧ D ≤ 6) (hu : D = 0 ∨ ¬ p ∣ T) : ofM p L X = (L, T, D) := by
  unfold ofM
  simp only [hx]
  have hpow : ∀ j : Nat, p ^ j ≠ 0 := fun j => Int.pow_ne_zero (by omega)
  by_cases h0 : T * p ^ (6 - D).toNat = 0
  · have hT : T = 0 := by
      rcases Int.mul_eq_zero.1 h0 with h | h
      · exact h
      · exact absurd h (hpow _)
    have hD0 : D = 0 := by
      rcases hu with h | h
      · exact h
      · exact absurd (by rw [hT]; exact Int.dvd_zero p) h
    subst hT; subst hD0
    simp
  · rw [if_neg h0]
    have hT : T ≠ 0 := by intro e; rw [e] at h0; simp at h0
    have hv : val p (T * p ^ (6 - D).toNat) = (6 - D).toNat + val p T := by rw [Int.mul_comm]; exact val_pow_mul _ hp hT
    have hdn : (if ((val p (T * p ^ (6 - D).toNat) : Nat) : Int) < 6 then 6 - ((val p (T * p ^ (6 - D).toNat) : Nat) : Int) else 0) = D := by
      rw [hv]
      rcases hu with h | h
      · rw [if_neg (by omega)]; exact h.symm
      · have : val p T = 0 := val_eq hp (u := T) (by simp) h
        rw [this]
        by_cases hd : D = 0
        · rw [if_neg (by omega)]; exact hd.symm
        · rw [if_pos (by omega)]; omega
    rw [hdn, Int.mul_ediv_cancel _ (hpow _)]
theorem ofM_mod (p L X : Int) : ofM p L (X % p ^ (L + 6).toNat) = ofM p L X := by unfold ofM; simp only [Int.emod_emod]
theorem ofM_back {p L X : Int} (hp : 2 ≤ p) : (ofM p L X).2.1 * p ^ (6 - (ofM p L X).2.2).toNat = X % p ^ (L + 6).toNat ∧ (0 ≤ (ofM p L X).2.2 ∧ (ofM p L X).2.2 ≤ 6) ∧ ((ofM p L X).2.2 = 0 ∨ ¬ p ∣ (ofM p L X).2.1) := by
  unfold ofM
  simp only
  generalize hx : X % p ^ (L + 6).toNat = x
  by_cases h0 : x = 0
  · rw [if_pos h0]; simp [h0]
  · rw [if_neg h0]
    obtain ⟨u, hu, hn⟩ := val_spec hp h0
    have hpow : ∀ j : Nat, p ^ j ≠ 0 := fun j => Int.pow_ne_zero (by omega)
    by_cases hv : ((val p x : Nat) : Int) < 6
    · rw [if_pos hv]
      have e : (6 - (6 - ((val p x : Nat) : Int))).toNat = val p x := by omega
      rw [e]
      have hq : x / p ^ val p x = u := by
        conv => lhs; lhs; rw [hu]
        exact Int.mul_ediv_cancel_left _ (hpow _)
      rw [hq]
      refine ⟨?_, by omega, .inr hn⟩
      rw [Int.mul_comm]; exact hu.symm
    · rw [if_neg hv]
      refine ⟨?_, by omega, .inl rfl⟩
      have hd : p ^ (6 - (0 : Int)).toNat ∣ x := (val_dvd hp h0 _).2 (by omega)
      exact Int.ediv_mul_cancel hd
theorem ofM_inj {p L X Y : Int} (hp : 2 ≤ p) : ofM p L X = ofM p L Y ↔ X % p ^ (L + 6).toNat = Y % p ^ (L + 6).toNat := by
  constructor
  · intro h
    rw [← (ofM_back (X := X) hp).1, ← (ofM_back (X := Y) hp).1, h]
  · intro h
    rw [← ofM_mod p L X, h, ofM_mod]
theorem ball_parts {p L T D : Int} (h : ballB p L T D = true) : primeB p = true ∧ (-6 ≤ L ∧ L ≤ 6) ∧ (0 ≤ D ∧ D ≤ 6) ∧ (L + D ≤ 0 → T = 0 ∧ D = 0) ∧ (0 < L + D → (0 ≤ T ∧ T < p ^ (L + D).toNat) ∧ (D = 0 ∨ ¬ p ∣ T)) := by
  unfold ballB at h
  simp only [Bool.and_eq_true, decide_eq_true_eq] at h
  obtain ⟨h1, h2, h3, h4⟩ := h
  refine ⟨h1, h2, h3, ?_, ?_⟩
  · intro hn; rw [if_pos hn] at h4; simpa using h4
  · intro hn
    rw [if_neg (by omega)] at h4
    simp only [Bool.and_eq_true, decide_eq_true_eq, Bool.or_eq_true, beq_iff_eq, Bool.not_eq_true', beq_eq_false_iff_ne] at h4
    refine ⟨h4.1, ?_⟩
    rcases h4.2 with h5 | h5
    · exact .inl h5
    · exact .inr (fun hd => h5 (Int.tmod_eq_zero_of_dvd hd))
theorem mark_lt {p L T D : Int} (h : ballB p L T D = true) : 0 ≤ markOf p T D ∧ markOf p T D < p ^ (L + 6).toNat := by
  obtain ⟨hp, hL, hD, h0, h1⟩ := ball_parts h
  have hp2 := prime_lo hp
  unfold markOf
  by_cases hn : L + D ≤ 0
  · rw [(h0 hn).1]
    have := ipow_pos (p := p) (by omega) (L + 6).toNat
    omega
  · obtain ⟨⟨a, b⟩, _⟩ := h1 (by omega)
    have hq := ipow_pos (p := p) (by omega) (6 - D).toNat
    refine ⟨Int.mul_nonneg a (by omega), ?_⟩
    have e : p ^ (L + 6).toNat = p ^ (L + D).toNat * p ^ (6 - D).toNat := by rw [← Int.pow_add]; congr 1; omega
    rw [e]
    exact Int.mul_lt_mul_of_pos_right b (by omega)
theorem mark_mod {p L T D : Int} (h : ballB p L T D = true) : markOf p T D % p ^ (L + 6).toNat = markOf p T D := Int.emod_eq_of_lt (mark_lt h).1 (mark_lt h).2
theorem ball_unit {p L T D : Int} (h : ballB p L T D = true) : D = 0 ∨ ¬ p ∣ T := by
  obtain ⟨_, _, _, h0, h1⟩ := ball_parts h
  by_cases hn : L + D ≤ 0
  · exact .inl (h0 hn).2
  · exact (h1 (by omega)).2
theorem ofM_mark {p L T D : Int} (h : ballB p L T D = true) : ofM p L (markOf p T D) = (L, T, D) :=
  ofM_of (prime_lo (ball_parts h).1) (mark_mod h) (ball_parts h).2.2.1 (ball_unit h)
theorem ofM_ball {p L X : Int} (hp : primeB p = true) (hL : -6 ≤ L ∧ L ≤ 6) : ballB p L (ofM p L X).2.1 (ofM p L X).2.2 = true := by
  have hp2 := prime_lo hp
  obtain ⟨hx, hD, hu⟩ := ofM_back (p := p) (L := L) (X := X) hp2
  have hpos := ipow_pos (p := p) (by omega) (L + 6).toNat
  have hx0 := Int.emod_nonneg X (show p ^ (L + 6).toNat ≠ 0 by omega)
  have hx1 := Int.emod_lt_of_pos X (show 0 < p ^ (L + 6).toNat by omega)
  generalize (ofM p L X).2.1 = T at *
  generalize (ofM p L X).2.2 = D at *
  have hq := ipow_pos (p := p) (by omega) (6 - D).toNat
  rw [← hx] at hx0 hx1
  have hT0 : 0 ≤ T := by
    rcases Int.lt_or_le T 0 with h | h
    · have := Int.mul_neg_of_neg_of_pos h (show 0 < p ^ (6 - D).toNat by omega); omega
    · exact h
  unfold ballB
  rw [hp, decide_eq_true hL, decide_eq_true hD, Bool.true_and, Bool.true_and, Bool.true_and]
  by_cases hn : L + D ≤ 0
  · rw [if_pos hn]
    have hT : T = 0 := by
      rcases Int.lt_or_eq_of_le hT0 with h | h
      · exfalso
        have e : p ^ (6 - D).toNat = p ^ (L + 6).toNat * p ^ (-(L + D)).toNat := by rw [← Int.pow_add]; congr 1; omega
        have h2 := ipow_pos (p := p) (by omega) (-(L + D)).toNat
        have h3 : p ^ (L + 6).toNat * 1 ≤ p ^ (L + 6).toNat * p ^ (-(L + D)).toNat := Int.mul_le_mul_of_nonneg_left (by omega) (by omega)
        have h4 : 1 * p ^ (6 - D).toNat ≤ T * p ^ (6 - D).toNat := Int.mul_le_mul_of_nonneg_right (by omega) (by omega)
        omega
      · exact h.symm
    have hD0 : D = 0 := by
      rcases hu with h | h
      · exact h
      · exact absurd (by rw [hT]; exact Int.dvd_zero p) h
    simp [hT, hD0]
  · rw [if_neg hn]
    have hlt : T < p ^ (L + D).toNat := by
      have e : p ^ (L + 6).toNat = p ^ (L + D).toNat * p ^ (6 - D).toNat := by rw [← Int.pow_add]; congr 1; omega
      rw [e] at hx1
      exact Int.lt_of_mul_lt_mul_right hx1 (by omega)
    rw [decide_eq_true (show 0 ≤ T ∧ T < p ^ (L + D).toNat from ⟨hT0, hlt⟩), Bool.true_and]
    rcases hu with h | h
    · simp [h]
    · have : (Int.tmod T p == 0) = false := beq_eq_false_iff_ne.2 (fun e => h (Int.dvd_of_tmod_eq_zero e))
      simp [this]
theorem ball_num {p L T D : Int} (h : ballB p L T D = true) : 0 ≤ T ∧ T ≤ 13841287201 := by
  obtain ⟨hp, hL, hD, h0, h1⟩ := ball_parts h
  have hp2 := prime_lo hp
  by_cases hn : L + D ≤ 0
  · rw [(h0 hn).1]; omega
  · have := (h1 (by omega)).1
    have := pow_13 hp (L + D).toNat (by omega)
    omega

def holdsB (p L T D L' T' D' : Int) : Bool := decide (L ≤ L') && ((markOf p T' D' - markOf p T D) % p ^ (L + 6).toNat == 0)
theorem holds_iff {p L T D T' D' : Int} (h : ballB p L T D = true) : ofM p L (markOf p T' D') = (L, T, D) ↔ (markOf p T' D' - markOf p T D) % p ^ (L + 6).toNat = 0 := by
  have hp2 := prime_lo (ball_parts h).1
  rw [← ofM_mark h, ofM_inj hp2]
  exact Int.emod_eq_emod_iff_emod_sub_eq_zero

theorem impl_power_l (p N : Int) (hN : N ≤ 9223372036854775807) (n : Nat) : ∀ (acc i : Int), 0 ≤ i → (i + n = N ∨ (n = 0 ∧ N ≤ i)) → Ev (fun k => impl_power.l0 k p acc N i) (powW p n acc) := by
  induction n with
  | zero =>
    intro acc i hi hx
    exact Ev.step (f := fun _ => some acc) (fun k => by simp only [impl_power.l0]; rw [if_neg (by omega)]) (Ev.now _)
  | succ n ih =>
    intro acc i hi hx
    exact Ev.step (f := fun k => impl_power.l0 k p (wrap64 (acc * p)) N (i + 1)) (fun k => by
      simp only [impl_power.l0]; rw [if_pos (by omega), show wrap64 (i + 1) = i + 1 from wid (by omega) (by omega)]) (ih _ (i + 1) (by omega) (by omega))
theorem impl_power_ev (p x : Int) (h : x ≤ 9223372036854775807) : Ev (fun k => impl_power.f k p x) (powW p x.toNat 1) := by
  refine Ev.congr (f := fun k => impl_power.l0 k p 1 x 0) (fun k => rfl) (impl_power_l p x h x.toNat 1 0 (by omega) (by omega))

theorem impl_mark_ev {p L T D : Int} (h : ballB p L T D = true) : Ev (fun k => impl_mark.f k p L T D) (markOf p T D) := by
  obtain ⟨hp, hL, hD, _, _⟩ := ball_parts h
  have hp2 := prime_lo hp
  obtain ⟨m0, m1⟩ := mark_lt h
  have m2 := pow_13 hp (L + 6).toNat (by omega)
  unfold impl_mark.f
  rw [wid (n := 6 - D) (by omega) (by omega)]
  refine Ev.bind (impl_power_ev p _ (by omega)) ?_
  rw [powW_prime hp _ (by omega), show T * p ^ (6 - D).toNat = markOf p T D from rfl, wid (by omega) (by omega)]
  exact Ev.now _

theorem impl_holds_ev {p L T D L' T' D' : Int} (h : ballB p L T D = true) (h' : ballB p L' T' D' = true) : Ev (fun k => impl_holds.f k p L T D L' T' D') (holdsB p L T D L' T' D') := by
  obtain ⟨hp, hL, _⟩ := ball_parts h
  have hp2 := prime_lo hp
  have hL' := (ball_parts h').2.1
  obtain ⟨a0, a1⟩ := mark_lt h
  obtain ⟨b0, b1⟩ := mark_lt h'
  have m2 := pow_13 hp (L + 6).toNat (by omega)
  have m2' := pow_13 hp (L' + 6).toNat (by omega)
  have m1 := ipow_pos (p := p) (by omega) (L + 6).toNat
  unfold impl_holds.f holdsB
  by_cases hle : L ≤ L'
  · simp only [if_pos hle, decide_eq_true hle, Bool.true_and]
    refine Ev.bind (impl_mark_ev h') (Ev.bind (impl_mark_ev h) ?_)
    rw [wid (n := L + 6) (by omega) (by omega)]
    refine Ev.bind (impl_power_ev p _ (by omega)) ?_
    rw [powW_prime hp _ (by omega), wid (n := markOf p T' D' - markOf p T D) (by omega) (by omega)]
    simp only [if_neg (show ¬ p ^ (L + 6).toNat = 0 by omega)]
    rw [show (Int.tmod (markOf p T' D' - markOf p T D) (p ^ (L + 6).toNat) == 0) = ((markOf p T' D' - markOf p T D) % p ^ (L + 6).toNat == 0) from by
      rw [Bool.eq_iff_iff, beq_iff_eq, beq_iff_eq, ← Int.dvd_iff_tmod_eq_zero, ← Int.dvd_iff_emod_eq_zero]]
    exact Ev.now _
  · simp only [if_neg hle, decide_eq_false hle, Bool.false_and]; exact Ev.now _

theorem spec_l01Power_l (p : Int) (n : Nat) : ∀ (x acc : Int), (n : Int) ≤ 9223372036854775807 → (x = n ∨ (n = 0 ∧ x ≤ 0)) → Ev (fun k => spec_l01Power.l0 k p x acc) (powW p n acc) := by
  induction n with
  | zero =>
    intro x acc _ hx
    exact Ev.step (f := fun _ => some acc) (fun k => by simp only [spec_l01Power.l0]; rw [if_neg (by omega)]) (Ev.now _)
  | succ n ih =>
    intro x acc hn hx
    have hx' : x = n + 1 := by omega
    exact Ev.step (f := fun k => spec_l01Power.l0 k p n (wrap64 (acc * p))) (fun k => by
      simp only [spec_l01Power.l0]; rw [if_pos (by omega), show wrap64 (x - 1) = (n : Int) from by rw [hx', wid (by omega) (by omega)]; omega]) (ih n _ (by omega) (.inl rfl))
theorem spec_l01Power_ev (p x : Int) (h : x ≤ 9223372036854775807) : Ev (fun k => spec_l01Power.f k p x) (powW p x.toNat 1) := by
  refine Ev.congr (f := fun k => spec_l01Power.l0 k p x 1) (fun k => rfl) (spec_l01Power_l p x.toNat x 1 (by omega) (by omega))

theorem spec_l01Val_l (p : Int) (hp : 2 ≤ p) (v : Nat) : ∀ (n u acc : Int), n = p ^ v * u → ¬ p ∣ u → n ≠ 0 → -4611686018427387904 ≤ n → n ≤ 4611686018427387904 → 0 ≤ acc → acc + v ≤ 4611686018427387904 → Ev (fun k => spec_l01Val.l0 k p n acc) (acc + v) := by
  induction v with
  | zero =>
    intro n u acc h hu h0 h1 h2 h3 h4
    refine Ev.step (f := fun _ => some acc) (fun k => ?_) (by simp; exact Ev.now _)
    simp only [spec_l01Val.l0]
    rw [if_neg (by omega), if_neg]
    intro e
    rw [h] at e
    exact hu (by simpa using Int.dvd_of_tmod_eq_zero e)
  | succ v ih =>
    intro n u acc h hu h0 h1 h2 h3 h4
    have hn : n = p * (p ^ v * u) := by rw [h, Int.pow_succ', Int.mul_assoc]
    have hm : Int.tmod n p = 0 := by rw [hn]; exact Int.mul_tmod_right p _
    have hd : Int.tdiv n p = p ^ v * u := by rw [hn]; exact Int.mul_tdiv_cancel_left _ (by omega)
    have hb := tdiv_bdv p (show -4611686018427387904 ≤ n ∧ n ≤ 4611686018427387904 from ⟨h1, h2⟩)
    have hne : p ^ v * u ≠ 0 := by intro e; rw [e] at hn; simp at hn; exact h0 hn
    refine Ev.step (f := fun k => spec_l01Val.l0 k p (p ^ v * u) (acc + 1)) (fun k => ?_) ?_
    · simp only [spec_l01Val.l0]
      rw [if_neg (by omega), if_pos hm, hd]
      rw [hd] at hb
      rw [wid (n := p ^ v * u) (by omega) (by omega), wid (n := acc + 1) (by omega) (by omega)]
    · rw [hd] at hb
      have := ih (p ^ v * u) u (acc + 1) rfl hu hne hb.1 hb.2 (by omega) (by omega)
      rw [show acc + ((v + 1 : Nat) : Int) = acc + 1 + (v : Int) from by omega]
      exact this
theorem spec_l01Val_ev {p n : Int} (hp : 2 ≤ p) (h0 : n ≠ 0) (h1 : -4611686018427387904 ≤ n) (h2 : n ≤ 4611686018427387904) : Ev (fun k => spec_l01Val.f k p n) (val p n : Int) := by
  obtain ⟨u, h, hu⟩ := val_spec hp h0
  have hv := val_le_of_lt hp h0 63 (by omega)
  have := spec_l01Val_l p hp (val p n) n u 0 h hu h0 h1 h2 (by omega) (by omega)
  rw [Int.zero_add] at this
  unfold spec_l01Val.f
  exact this

theorem tmod_cast {a m : Int} (h : 0 ≤ a) : Int.tmod a m = a % m := Int.tmod_eq_emod_of_nonneg h
theorem tdiv_cast {a m : Int} (h : 0 ≤ a) : Int.tdiv a m = a / m := Int.tdiv_eq_ediv_of_nonneg h
theorem tmod_lt' {a m : Int} (hm : 0 < m) : -m < Int.tmod a m ∧ Int.tmod a m < m := by
  have h1 := Int.natAbs_tmod a m
  have h2 := Nat.mod_lt a.natAbs (show 0 < m.natAbs by omega)
  omega
theorem emod_mul_emod' (a b m : Int) : a % m * b % m = a * b % m := by rw [Int.mul_emod (a % m) b m, Int.emod_emod, ← Int.mul_emod]
theorem modW {a m : Int} (hm : 1 ≤ m) (hm2 : m ≤ 2305843009213693952) : Int.tmod (wrap64 (Int.tmod a m + m)) m = a % m := by
  obtain ⟨h1, h2⟩ := tmod_lt' (a := a) (show 0 < m by omega)
  rw [wid (by omega) (by omega), tmod_cast (by omega), Int.add_emod_right]
  have e := Int.tmod_add_mul_tdiv a m
  conv => rhs; rw [← e, Int.add_mul_emod_self_left]

theorem spec_l01MulMod_eq {a b m : Int} (hm : 1 ≤ m) (hm2 : m ≤ 100000000000) : spec_l01MulMod.f a b m = some (a * b % m) := by
  unfold spec_l01MulMod.f
  rw [if_neg (by omega), modW hm (by omega), modW hm (by omega)]
  have a0 := Int.emod_nonneg a (show m ≠ 0 by omega)
  have a1 := Int.emod_lt_of_pos a (show 0 < m by omega)
  have b0 := Int.emod_nonneg b (show m ≠ 0 by omega)
  have b1 := Int.emod_lt_of_pos b (show 0 < m by omega)
  have hab : a * b % m = (a % m) * (b % m) % m := Int.mul_emod a b m
  rw [hab]
  generalize a % m = x at *
  generalize b % m = y at *
  rw [tdiv_cast b0, tmod_cast b0]
  have q0 : 0 ≤ y / 1000000 := by omega
  have q1 : y / 1000000 ≤ 100000 := by omega
  have r0 : 0 ≤ y % 1000000 := by omega
  have r1 : y % 1000000 ≤ 1000000 := by omega
  have p0 : 0 ≤ x * (y / 1000000) := Int.mul_nonneg a0 q0
  have p1 : x * (y / 1000000) ≤ 100000000000 * 100000 := Int.mul_le_mul (by omega) q1 q0 (by omega)
  have s0 : 0 ≤ x * (y % 1000000) := Int.mul_nonneg a0 r0
  have s1 : x * (y % 1000000) ≤ 100000000000 * 1000000 := Int.mul_le_mul (by omega) r1 r0 (by omega)
  rw [wid (n := y / 1000000) (by omega) (by omega), wid (n := x * (y / 1000000)) (by omega) (by omega), wid (n := x * (y % 1000000)) (by omega) (by omega), tmod_cast p0, tmod_cast s0]
  have t0 := Int.emod_nonneg (x * (y / 1000000)) (show m ≠ 0 by omega)
  have t1 := Int.emod_lt_of_pos (x * (y / 1000000)) (show 0 < m by omega)
  rw [wid (n := x * (y / 1000000) % m * 1000000) (by omega) (by omega), tmod_cast (a := x * (y / 1000000) % m * 1000000) (by omega)]
  have u0 := Int.emod_nonneg (x * (y / 1000000) % m * 1000000) (show m ≠ 0 by omega)
  have u1 := Int.emod_lt_of_pos (x * (y / 1000000) % m * 1000000) (show 0 < m by omega)
  have v0 := Int.emod_nonneg (x * (y % 1000000)) (show m ≠ 0 by omega)
  have v1 := Int.emod_lt_of_pos (x * (y % 1000000)) (show 0 < m by omega)
  rw [wid (n := x * (y / 1000000) % m * 1000000 % m + x * (y % 1000000) % m) (by omega) (by omega), tmod_cast (a := x * (y / 1000000) % m * 1000000 % m + x * (y % 1000000) % m) (by omega)]
  congr 1
  have e1 : x * (y / 1000000) % m * 1000000 % m = x * (y / 1000000) * 1000000 % m := by rw [emod_mul_emod']
  rw [e1, ← Int.add_emod]
  congr 1
  rw [Int.mul_assoc, ← Int.mul_add]
  congr 1
  omega

theorem spec_l01InvMod_one {m : Int} (hm : 2 ≤ m) (hm2 : m ≤ 100000000000) : Ev (fun k => spec_l01InvMod.f k 1 m) 1 := by
  have h1 : Int.tmod (wrap64 (Int.tmod 1 m + m)) m = 1 := by rw [modW (by omega) (by omega)]; exact Int.emod_eq_of_lt (by omega) (by omega)
  refine Ev.congr (f := fun k => spec_l01InvMod.l0 k m 1 m 1 0) (fun k => by unfold spec_l01InvMod.f; rw [if_neg (by omega), h1]) ?_
  have q0 : Int.tdiv 1 m = 0 := by rw [tdiv_cast (by omega)]; exact Int.ediv_eq_zero_of_lt (by omega) (by omega)
  have q1 : Int.tdiv m 1 = m := Int.tdiv_one m
  have z0 : wrap64 0 = 0 := wid (by omega) (by omega)
  have z1 : wrap64 1 = 1 := wid (by omega) (by omega)
  refine Ev.step (f := fun k => spec_l01InvMod.l0 k m m 1 0 1) (fun k => ?_) ?_
  · simp only [spec_l01InvMod.l0]
    rw [if_neg (by omega), q0, z0, Int.zero_mul, z0, Int.sub_zero, z1, Int.mul_zero, z0, Int.sub_zero, z1]
  refine Ev.step (f := fun k => spec_l01InvMod.l0 k m 1 0 1 (-m)) (fun k => ?_) ?_
  · simp only [spec_l01InvMod.l0]
    rw [if_neg (by omega), q1, wid (n := m) (by omega) (by omega), Int.mul_one, wid (n := m) (by omega) (by omega), Int.sub_self, z0, Int.zero_sub, wid (n := -m) (by omega) (by omega)]
  refine Ev.step (f := fun _ => some 1) (fun k => ?_) (Ev.now _)
  simp only [spec_l01InvMod.l0]
  rw [if_pos trivial, if_neg (by omega), h1]

theorem In_eq (a b c : Int) : spec_l01In.f a b c = some (decide (b ≤ a ∧ a ≤ c)) := by
  unfold spec_l01In.f
  by_cases h : a ≥ b
  · rw [if_pos h]; congr 1; exact decide_eq_decide.2 ⟨fun h2 => ⟨h, h2⟩, fun h2 => h2.2⟩
  · rw [if_neg h]; congr 1; exact (decide_eq_false (fun h2 => h h2.1)).symm

theorem mx_eq (a b : Int) : mx a b = if a < b then b else a := rfl
theorem spec_l01Of_pow {p num L : Int} (D : Nat) (hp : primeB p = true) (hD : D ≤ 6) (h1 : -1152921504606846976 ≤ num) (h2 : num ≤ 1152921504606846976) (hL : -6 ≤ L ∧ L ≤ 6) :
    Ev (fun k => spec_l01Of.f k p num (p ^ D) L) ((ofM p L (num * p ^ (6 - D))).1, (ofM p L (num * p ^ (6 - D))).2.1, (ofM p L (num * p ^ (6 - D))).2.2, true) := by
  have hp2 := prime_lo hp
  have hpow : ∀ j : Nat, p ^ j ≠ 0 := fun j => Int.pow_ne_zero (by omega)
  have hpD := pow_13 hp D (by omega)
  have hpD1 := ipow_pos (p := p) (by omega) D
  unfold spec_l01Of.f
  refine Ev.bindv (In_eq _ _ _) ?_
  rw [decide_eq_true hL]
  simp only [if_true]
  by_cases h0 : num = 0
  · simp only [if_pos h0]
    have e : ofM p L (num * p ^ (6 - D)) = (L, 0, 0) := by
      rw [h0, Int.zero_mul]; exact ofM_of hp2 (by simp) (by omega) (.inl rfl)
    rw [e]; exact Ev.now _
  simp only [if_neg h0]
  have hvD : val p (p ^ D) = D := val_eq hp2 (u := 1) (by simp) (fun h => by have := Int.le_of_dvd (by omega) h; omega)
  have hv60 := val_le_of_lt hp2 h0 61 (by omega)
  refine Ev.bind (spec_l01Val_ev hp2 h0 (by omega) (by omega)) (Ev.bind (spec_l01Val_ev hp2 (hpow D) (by omega) (by omega)) ?_)
  rw [hvD]
  obtain ⟨u, hu, hn⟩ := val_spec hp2 h0
  generalize hv : val p num = v at *
  rw [wid (n := (v : Int) - (D : Int)) (by omega) (by omega), wid (n := (D : Int) - (v : Int)) (by omega) (by omega)]
  have hX : num * p ^ (6 - D) = p ^ (v + (6 - D)) * u := by
    rw [hu, Int.pow_add, Int.mul_assoc, Int.mul_assoc, Int.mul_comm u]
  by_cases hle : L ≤ (v : Int) - (D : Int)
  · simp only [if_pos hle]
    have e : ofM p L (num * p ^ (6 - D)) = (L, 0, 0) := by
      refine ofM_of hp2 ?_ (by omega) (.inl rfl)
      rw [hX, Int.zero_mul, show v + (6 - D) = (L + 6).toNat + (v + (6 - D) - (L + 6).toNat) from by omega, Int.pow_add, Int.mul_assoc]
      exact Int.mul_emod_right _ _
    rw [e]; exact Ev.now _
  simp only [if_neg hle]
  obtain ⟨dn, hdn⟩ : ∃ dn : Nat, (dn : Int) = mx ((D : Int) - (v : Int)) 0 := ⟨D - v, by rw [mx_eq]; split <;> omega⟩
  have hdn2 : (dn : Int) = if (D : Int) - v < 0 then 0 else (D : Int) - v := by rw [hdn, mx_eq]
  rw [← hdn]
  have hdn6 : dn ≤ D := by split at hdn2 <;> omega
  have hmp : 1 ≤ L + dn := by split at hdn2 <;> omega
  have hmp2 : (L + dn).toNat ≤ 12 := by omega
  simp only [if_neg (show ¬ (dn : Int) > 6 by omega)]
  rw [wid (n := L + (dn : Int)) (by omega) (by omega)]
  refine Ev.bind (spec_l01Power_ev p (L + dn) (by omega)) ?_
  rw [powW_prime hp _ (by omega)]
  have hu0 : u ≠ 0 := by intro e; rw [e] at hn; exact hn (Int.dvd_zero p)
  have hpv1 := ipow_pos (p := p) (by omega) v
  have hpv : p ^ v ≤ 1152921504606846976 := by
    have : num.natAbs = (p ^ v).natAbs * u.natAbs := by rw [← Int.natAbs_mul, ← hu]
    have h3 : (p ^ v).natAbs * 1 ≤ (p ^ v).natAbs * u.natAbs := Nat.mul_le_mul_left _ (by omega)
    omega
  have hub : -1152921504606846976 ≤ u ∧ u ≤ 1152921504606846976 := by
    have : num.natAbs = (p ^ v).natAbs * u.natAbs := by rw [← Int.natAbs_mul, ← hu]
    have h3 : 1 * u.natAbs ≤ (p ^ v).natAbs * u.natAbs := Nat.mul_le_mul_right _ (by omega)
    omega
  have pv : powW p v 1 = p ^ v := by rw [powW_fit p (by omega) v 1 (by omega) (by omega), Int.one_mul]
  refine Ev.bind (spec_l01Power_ev p v (by omega)) ?_
  rw [Int.toNat_natCast, pv]
  simp only [if_neg (hpow v)]
  refine Ev.bind (spec_l01Power_ev p D (by omega)) ?_
  rw [Int.toNat_natCast, powW_prime hp D (by omega)]
  simp only [if_neg (hpow D)]
  rw [Int.tdiv_self (hpow D), show wrap64 1 = 1 from wid (by omega) (by omega)]
  have hm1 : p ^ (L + (dn : Int)).toNat ≤ 13841287201 := pow_13 hp _ hmp2
  have hm0 : 2 ≤ p ^ (L + (dn : Int)).toNat := by
    have := ipow_mono (p := p) (by omega) (show 1 ≤ (L + (dn : Int)).toNat by omega)
    rw [Int.pow_one] at this; omega
  refine Ev.bind (spec_l01InvMod_one hm0 (by omega)) ?_
  have hq : Int.tdiv num (p ^ v) = u := by
    conv => lhs; lhs; rw [hu]
    exact Int.mul_tdiv_cancel_left _ (hpow v)
  rw [hq, wid (n := u) (by omega) (by omega)]
  refine Ev.bindv (spec_l01MulMod_eq (by omega) (by omega)) ?_
  rw [Int.mul_one]
  obtain ⟨e, he⟩ : ∃ e : Nat, (e : Int) = mx ((v : Int) - (D : Int)) 0 := ⟨v - D, by rw [mx_eq]; split <;> omega⟩
  have he2 : (e : Int) = if (v : Int) - D < 0 then 0 else (v : Int) - D := by rw [he, mx_eq]
  rw [← he]
  have hev : e ≤ v := by split at he2 <;> omega
  have hpe : p ^ e ≤ p ^ v := ipow_mono (by omega) hev
  refine Ev.bind (spec_l01Power_ev p e (by omega)) ?_
  rw [Int.toNat_natCast, powW_fit p (by omega) e 1 (by omega) (by omega), Int.one_mul]
  refine Ev.bindv (spec_l01MulMod_eq (by omega) (by omega)) ?_
  have hT : u % p ^ (L + (dn : Int)).toNat * p ^ e % p ^ (L + (dn : Int)).toNat = u * p ^ e % p ^ (L + (dn : Int)).toNat := by rw [emod_mul_emod']
  rw [hT]
  have hexp : v + (6 - D) = (6 - (dn : Int)).toNat + e := by split at hdn2 <;> split at he2 <;> omega
  have hexp2 : (L + 6).toNat = (6 - (dn : Int)).toNat + (L + (dn : Int)).toNat := by omega
  have key : ofM p L (num * p ^ (6 - D)) = (L, u * p ^ e % p ^ (L + (dn : Int)).toNat, (dn : Int)) := by
    refine ofM_of hp2 ?_ (by omega) ?_
    · rw [hX, hexp, hexp2, Int.pow_add, Int.pow_add, Int.mul_assoc, Int.mul_emod_mul_of_pos _ _ (Int.lt_of_lt_of_le (by omega) (ipow_pos (p := p) (by omega) _)), Int.mul_comm (p ^ e) u, Int.mul_comm]
    · by_cases hz : dn = 0
      · left; omega
      · right
        have e0 : e = 0 := by split at hdn2 <;> split at he2 <;> omega
        rw [e0, Int.pow_zero, Int.mul_one]
        intro hd
        apply hn
        have hpm : p ∣ p ^ (L + (dn : Int)).toNat := by
          obtain ⟨j, hj⟩ : ∃ j, (L + (dn : Int)).toNat = j + 1 := ⟨(L + (dn : Int)).toNat - 1, by omega⟩
          rw [hj, Int.pow_succ']; exact Int.dvd_mul_right _ _
        have := Int.dvd_add hd (Int.dvd_trans hpm (Int.dvd_mul_right (p ^ (L + (dn : Int)).toNat) (u / p ^ (L + (dn : Int)).toNat)))
        rwa [Int.emod_add_mul_ediv] at this
  rw [key]
  exact Ev.now _
theorem spec_l01Holds_ev {p L T D L' T' D' : Int} (h : ballB p L T D = true) (h' : ballB p L' T' D' = true) : Ev (fun k => spec_l01Holds.f k p L T D L' T' D') (holdsB p L T D L' T' D') := by
  obtain ⟨hp, hL, hD, _⟩ := ball_parts h
  obtain ⟨_, hL', hD', _⟩ := ball_parts h'
  have hT' := ball_num h'
  unfold spec_l01Holds.f holdsB
  by_cases hle : L ≤ L'
  · simp only [if_neg (show ¬ L > L' by omega), decide_eq_true hle, Bool.true_and]
    refine Ev.bind (spec_l01Power_ev p D' (by omega)) ?_
    rw [powW_prime hp _ (by omega)]
    have := spec_l01Of_pow (num := T') D'.toNat hp (by omega) (by omega) (by omega) hL
    rw [show 6 - D'.toNat = (6 - D').toNat from by omega] at this
    refine Ev.bind this ?_
    simp only [if_true]
    rw [show ((ofM p L (T' * p ^ (6 - D').toNat)).1 == L && ((ofM p L (T' * p ^ (6 - D').toNat)).2.1 == T && (ofM p L (T' * p ^ (6 - D').toNat)).2.2 == D)) = ((markOf p T' D' - markOf p T D) % p ^ (L + 6).toNat == 0) from by
      rw [Bool.eq_iff_iff]
      simp only [Bool.and_eq_true, beq_iff_eq]
      rw [← holds_iff h]
      show _ ↔ ofM p L (T' * p ^ (6 - D').toNat) = (L, T, D)
      constructor
      · rintro ⟨e1, e2, e3⟩; exact Prod.ext e1 (Prod.ext e2 e3)
      · intro e; rw [e]; exact ⟨rfl, rfl, rfl⟩]
    exact Ev.now _
  · simp only [if_pos (show L > L' by omega), decide_eq_false hle, Bool.false_and]; exact Ev.now _

theorem spec_l01Prime_eq (p : Int) : spec_l01Prime.f p = some (primeB p) := by
  unfold spec_l01Prime.f primeB
  by_cases h2 : p = 2
  · simp [h2]
  · by_cases h3 : p = 3
    · simp [h3]
    · by_cases h5 : p = 5
      · simp [h5]
      · rw [if_neg h2, if_neg h3, if_neg h5, beq_eq_false_iff_ne.2 h2, beq_eq_false_iff_ne.2 h3, beq_eq_false_iff_ne.2 h5]; rfl

theorem spec_l01Is_ev (p L T D : Int) : Ev (fun k => spec_l01Is.f k p L T D) (ballB p L T D) := by
  have hno : Ev (fun k => spec_l01Is.j0 k p true L T D) false := Ev.step (f := fun _ => some false) (fun k => by simp only [spec_l01Is.j0, if_true]) (Ev.now _)
  unfold spec_l01Is.f
  refine Ev.bindv (spec_l01Prime_eq p) ?_
  unfold ballB
  cases hp : primeB p with
  | false => simpa using hno
  | true =>
    have hp2 := prime_lo hp
    simp only [if_true, Bool.true_and]
    refine Ev.bindv (In_eq L (-6) 6) ?_
    by_cases hL : -6 ≤ L ∧ L ≤ 6
    · rw [decide_eq_true hL]; simp only [if_true, Bool.true_and]
      refine Ev.bindv (In_eq D 0 6) ?_
      by_cases hD : 0 ≤ D ∧ D ≤ 6
      · rw [decide_eq_true hD]; simp only [Bool.not_true, Bool.true_and]
        have hn := wid (n := L + D) (by omega) (by omega)
        by_cases h0 : L + D ≤ 0
        · rw [if_pos h0]
          refine Ev.step (f := fun _ => some (T == 0 && D == 0)) (fun k => ?_) (Ev.now _)
          simp only [spec_l01Is.j0]
          rw [if_neg (by decide), hn, if_pos h0]
          by_cases hT : T = 0
          · simp [hT]
          · simp [hT]
        · rw [if_neg h0]
          refine Ev.step (f := fun k => (spec_l01Power.f k p (L + D)).bind fun t => (spec_l01In.f T 0 (wrap64 (t - 1))).bind fun t2 => if t2 = true then (if D = 0 then some true else if p = 0 then none else some (Int.tmod T p != 0)) else some false) (fun k => by simp only [spec_l01Is.j0]; rw [if_neg (by decide), hn, if_neg h0]) ?_
          refine Ev.bind (spec_l01Power_ev p (L + D) (by omega)) ?_
          rw [powW_prime hp _ (by omega)]
          have hpp := ipow_pos (p := p) (by omega) (L + D).toNat
          have hpt := pow_le_top hp (L + D).toNat (by omega)
          rw [wid (n := p ^ (L + D).toNat - 1) (by omega) (by omega)]
          refine Ev.bindv (In_eq _ _ _) ?_
          rw [show decide (0 ≤ T ∧ T ≤ p ^ (L + D).toNat - 1) = decide (0 ≤ T ∧ T < p ^ (L + D).toNat) from decide_eq_decide.2 (by omega)]
          cases decide (0 ≤ T ∧ T < p ^ (L + D).toNat) with
          | false => simp only [Bool.false_eq_true, if_false, Bool.false_and]; exact Ev.now _
          | true =>
            simp only [if_true, Bool.true_and]
            by_cases hd : D = 0
            · simp only [hd, if_true]; simp; exact Ev.now _
            · rw [if_neg hd, if_neg (by omega), show (D == 0) = false from beq_eq_false_iff_ne.2 hd, Bool.false_or]
              exact Ev.now _
      · rw [decide_eq_false hD]; simpa using hno
    · rw [decide_eq_false hL]; simpa using hno

theorem rd_nat (l : List Int) (j : Nat) (h : j < l.length) : rd l (j : Int) = l[j] := by
  unfold rd; rw [Int.toNat_natCast, List.getD_eq_getElem?_getD, List.getElem?_eq_getElem h]; rfl
theorem copy_ev {α : Type} (g : Nat → List α → Int → Option (List α)) (src : List α) (get : Int → α)
    (hstep : ∀ k (dst : List α) (i : Nat), i < src.length → dst.length = src.length → g (k + 1) dst i = g k (dst.set i (get i)) ((i : Int) + 1))
    (hend : ∀ k (dst : List α) (i : Nat), src.length ≤ i → dst.length = src.length → g (k + 1) dst i = some dst)
    (hget : ∀ (i : Nat) (h : i < src.length), get i = src[i]) (dst : List α) (hd : dst.length = src.length) : Ev (fun k => g k dst 0) src := by
  have key : ∀ (n i : Nat) (dst : List α), i + n = src.length → dst.length = src.length → (∀ (j : Nat) (h : j < src.length), j < i → dst[j]? = some src[j]) → Ev (fun k => g k dst i) src := by
    intro n
    induction n with
    | zero =>
      intro i dst hi hl hp
      refine Ev.step (f := fun _ => some dst) (fun k => hend k dst i (by omega) hl) ?_
      have e : dst = src := by
        refine List.ext_getElem? fun j => ?_
        by_cases h : j < src.length
        · rw [hp j h (by omega), List.getElem?_eq_getElem h]
        · rw [List.getElem?_eq_none (by omega), List.getElem?_eq_none (by omega)]
      rw [e]; exact Ev.now _
    | succ n ih =>
      intro i dst hi hl hp
      refine Ev.step (f := fun k => g k (dst.set i (get i)) ((i + 1 : Nat) : Int)) (fun k => ?_) (ih (i + 1) _ (by omega) (by rw [List.length_set]; exact hl) ?_)
      · rw [hstep k dst i (by omega) hl]; rfl
      · intro j h hj
        by_cases e : j = i
        · subst e
          rw [List.getElem?_set_self (by omega), hget j h]
        · rw [List.getElem?_set_ne (by omega)]; exact hp j h (by omega)
  exact key src.length 0 dst (by omega) hd (fun j h hj => by omega)
theorem all_ev {β : Type} (g : Nat → Int → Option β) (n : Nat) (p : Nat → Bool) (yes no : β)
    (hstep : ∀ (i : Nat), i < n → p i = true → Ev (fun k => g k ((i : Int) + 1)) yes → Ev (fun k => g k i) yes)
    (hstepno : ∀ (i : Nat), i < n → p i = true → Ev (fun k => g k ((i : Int) + 1)) no → Ev (fun k => g k i) no)
    (hno : ∀ (i : Nat), i < n → p i = false → Ev (fun k => g k i) no)
    (hend : Ev (fun k => g k n) yes) : Ev (fun k => g k 0) (if (List.range n).all p then yes else no) := by
  have key : ∀ (d i : Nat), i + d = n → Ev (fun k => g k i) (if (List.range' i d).all p then yes else no) := by
    intro d
    induction d with
    | zero => intro i hi; have : i = n := by omega
              subst this; simpa using hend
    | succ d ih =>
      intro i hi
      have h := ih (i + 1) (by omega)
      rw [List.range'_succ, List.all_cons]
      cases e : p i with
      | false => simpa using hno i (by omega) e
      | true =>
        rw [Bool.true_and]
        have e1 : (((i + 1 : Nat) : Int)) = (i : Int) + 1 := by omega
        rw [e1] at h
        cases e2 : (List.range' (i + 1) d).all p with
        | true => rw [e2] at h; exact hstep i (by omega) e h
        | false => rw [e2] at h; exact hstepno i (by omega) e h
  have := key n 0 (by omega)
  rw [← List.range_eq_range'] at this
  exact this
theorem all_range_rd (l : List Int) (q : Int → Bool) : (List.range l.length).all (fun i => q (rd l (i : Int))) = l.all q := by
  rw [Bool.eq_iff_iff]
  simp only [List.all_eq_true, List.mem_range]
  constructor
  · intro h x hx
    obtain ⟨i, hi, rfl⟩ := List.mem_iff_getElem.1 hx
    have := h i hi
    rwa [rd_nat l i hi] at this
  · intro h i hi
    rw [rd_nat l i hi]
    exact h _ (List.getElem_mem hi)
theorem all_range_getD {α : Type} (l : List α) (d : α) (q : α → Bool) : (List.range l.length).all (fun i => q (l.getD i d)) = l.all q := by
  rw [Bool.eq_iff_iff]
  simp only [List.all_eq_true, List.mem_range]
  constructor
  · intro h x hx
    obtain ⟨i, hi, rfl⟩ := List.mem_iff_getElem.1 hx
    have := h i hi
    rwa [List.getD_eq_getElem?_getD, List.getElem?_eq_getElem hi] at this
  · intro h i hi
    rw [List.getD_eq_getElem?_getD, List.getElem?_eq_getElem hi]
    exact h _ (List.getElem_mem hi)
theorem all_ev' {β : Type} (g : Nat → Int → Option β) (n : Nat) (p : Nat → Bool) (yes no : β)
    (hstep : ∀ (i : Nat) (r : β), i < n → p i = true → Ev (fun k => g k ((i : Int) + 1)) r → Ev (fun k => g k i) r)
    (hno : ∀ (i : Nat), i < n → p i = false → Ev (fun k => g k i) no)
    (hend : Ev (fun k => g k n) yes) : Ev (fun k => g k 0) (if (List.range n).all p then yes else no) :=
  all_ev g n p yes no (fun i hi hp h => hstep i yes hi hp h) (fun i hi hp h => hstep i no hi hp h) hno hend
theorem ite_tf (b : Bool) : (if b then true else false) = b := by cases b <;> rfl
theorem copy_ev' {α : Type} (g : Nat → List α → Int → Option (List α)) (src : List α)
    (hstep : ∀ (dst : List α) (i : Nat) (h : i < src.length) (r : List α), dst.length = src.length → Ev (fun k => g k (dst.set i src[i]) ((i : Int) + 1)) r → Ev (fun k => g k dst i) r)
    (hend : ∀ (dst : List α), dst.length = src.length → Ev (fun k => g k dst src.length) dst) (dst : List α) (hd : dst.length = src.length) : Ev (fun k => g k dst 0) src := by
  have key : ∀ (n i : Nat) (dst : List α), i + n = src.length → dst.length = src.length → (∀ (j : Nat) (h : j < src.length), j < i → dst[j]? = some src[j]) → Ev (fun k => g k dst i) src := by
    intro n
    induction n with
    | zero =>
      intro i dst hi hl hp
      have e : dst = src := by
        refine List.ext_getElem? fun j => ?_
        by_cases h : j < src.length
        · rw [hp j h (by omega), List.getElem?_eq_getElem h]
        · rw [List.getElem?_eq_none (by omega), List.getElem?_eq_none (by omega)]
      have hi2 : i = src.length := by omega
      subst hi2
      have := hend dst hl
      rwa [e] at this ⊢
    | succ n ih =>
      intro i dst hi hl hp
      refine hstep dst i (by omega) src hl ?_
      have := ih (i + 1) (dst.set i (src[i]'(by omega))) (by omega) (by rw [List.length_set]; exact hl) (fun j h hj => by
        by_cases e : j = i
        · subst e; rw [List.getElem?_set_self (by omega)]
        · rw [List.getElem?_set_ne (by omega)]; exact hp j h (by omega))
      exact this
  exact key src.length 0 dst (by omega) hd (fun j h hj => by omega)

def codeB (p : Int) (l : List S31) : Bool := primeB p && l.all (fun b => ballB p b.f0 b.f1 b.f2)
theorem spec_l01Code_ev (p : Int) (l : List S31) (hl : l.length ≤ 4611686018427387904) : Ev (fun k => spec_l01Code.f k p l) (if codeB p l then 0 else 1) := by
  unfold spec_l01Code.f codeB
  refine Ev.bindv (spec_l01Prime_eq p) ?_
  cases hp : primeB p with
  | false => simp; exact Ev.now _
  | true =>
    simp only [if_true, Bool.true_and]
    rw [← all_range_getD l z31]
    refine all_ev' (fun k i => spec_l01Code.l0 k p l i) l.length (fun i => ballB p (l.getD i z31).f0 (l.getD i z31).f1 (l.getD i z31).f2) 0 1 ?_ ?_ ?_
    · intro i r hi hb hr
      refine Ev.step (f := fun k => (spec_l01Is.f k p (l.getD i z31).f0 (l.getD i z31).f1 (l.getD i z31).f2).bind fun t => if t = true then spec_l01Code.l0 k p l ((i : Int) + 1) else some 1) (fun k => ?_) ?_
      · simp only [spec_l01Code.l0]
        rw [if_pos (by omega), if_pos (by omega), wid (by omega) (by omega)]; rfl
      · refine Ev.bind (spec_l01Is_ev _ _ _ _) ?_
        rw [hb]; simpa using hr
    · intro i hi hb
      refine Ev.step (f := fun k => (spec_l01Is.f k p (l.getD i z31).f0 (l.getD i z31).f1 (l.getD i z31).f2).bind fun t => if t = true then spec_l01Code.l0 k p l ((i : Int) + 1) else some 1) (fun k => ?_) ?_
      · simp only [spec_l01Code.l0]
        rw [if_pos (by omega), if_pos (by omega), wid (by omega) (by omega)]; rfl
      · refine Ev.bind (spec_l01Is_ev _ _ _ _) ?_
        rw [hb]; simp; exact Ev.now _
    · exact Ev.step (f := fun _ => some 0) (fun k => by simp only [spec_l01Code.l0]; rw [if_neg (by omega)]) (Ev.now _)

theorem impl_within_ev (m : Int) (l : List Int) (hm : 0 ≤ m) (hm2 : m ≤ 4611686018427387904) (hl : l.length ≤ 4611686018427387904) : Ev (fun k => impl_within.f k m l) (l.all (fun x => decide (-m ≤ x ∧ x ≤ m))) := by
  unfold impl_within.f
  rw [← ite_tf (l.all _), ← all_range_rd]
  have w : wrap64 (-m) = -m := wid (by omega) (by omega)
  refine all_ev' (fun k i => impl_within.l0 k m l l.length i) l.length (fun i => decide (-m ≤ rd l (i : Int) ∧ rd l (i : Int) ≤ m)) true false ?_ ?_ ?_
  · intro i r hi hp hr
    have hp := of_decide_eq_true hp
    refine Ev.step (f := fun k => impl_within.l0 k m l l.length ((i : Int) + 1)) (fun k => ?_) hr
    simp only [impl_within.l0]
    rw [if_pos (by omega), if_pos (by omega), if_pos (by omega), w, if_neg (by omega), if_neg (by omega), wid (by omega) (by omega)]
  · intro i hi hp
    have hp := of_decide_eq_false hp
    refine Ev.step (f := fun _ => some false) (fun k => ?_) (Ev.now _)
    simp only [impl_within.l0]
    rw [if_pos (by omega), if_pos (by omega), if_pos (by omega), w]
    by_cases h : rd l (i : Int) < -m
    · rw [if_pos h]
    · rw [if_neg h, if_pos (by omega)]
  · exact Ev.step (f := fun _ => some true) (fun k => by simp only [impl_within.l0]; rw [if_neg (by omega)]) (Ev.now _)

theorem impl_isPrime_eq (p : Int) : impl_isPrime.f p = some (primeB p) := by
  unfold impl_isPrime.f primeB
  by_cases h2 : p = 2
  · simp [h2]
  · by_cases h3 : p = 3
    · simp [h3]
    · by_cases h5 : p = 5
      · simp [h5]
      · rw [if_neg h2, if_neg h3, if_neg h5, beq_eq_false_iff_ne.2 h2, beq_eq_false_iff_ne.2 h3, beq_eq_false_iff_ne.2 h5]; rfl

theorem impl_isLevel_eq (L : Int) : impl_isLevel.f L = some (decide (-6 ≤ L ∧ L ≤ 6)) := by
  unfold impl_isLevel.f
  by_cases h : L ≥ -6
  · rw [if_pos h]; congr 1; exact decide_eq_decide.2 ⟨fun h2 => ⟨h, h2⟩, fun h2 => h2.2⟩
  · rw [if_neg h]; congr 1; exact (decide_eq_false (fun h2 => h h2.1)).symm

theorem impl_IsBall_ev (p L T D : Int) : Ev (fun k => impl_IsBall.f k p L T D) (ballB p L T D) := by
  have hno : Ev (fun k => impl_IsBall.j0 k p true L T D) false := Ev.step (f := fun _ => some false) (fun k => by simp only [impl_IsBall.j0, if_true]) (Ev.now _)
  unfold impl_IsBall.f
  refine Ev.bindv (impl_isPrime_eq p) ?_
  unfold ballB
  cases hp : primeB p with
  | false => simpa using hno
  | true =>
    have hp2 := prime_lo hp
    simp only [if_true, Bool.true_and]
    refine Ev.bindv (impl_isLevel_eq L) ?_
    by_cases hL : -6 ≤ L ∧ L ≤ 6
    · rw [decide_eq_true hL]; simp only [if_true, Bool.true_and]
      by_cases hD0 : D < 0
      · rw [decide_eq_false (show ¬ (0 ≤ D ∧ D ≤ 6) by omega)]; simp only [if_pos hD0, Bool.false_and]; exact hno
      simp only [if_neg hD0]
      by_cases hD : 0 ≤ D ∧ D ≤ 6
      · rw [decide_eq_true hD, decide_eq_false (show ¬ D > 6 by omega)]; simp only [Bool.true_and]
        have hn := wid (n := L + D) (by omega) (by omega)
        by_cases h0 : L + D ≤ 0
        · rw [if_pos h0]
          refine Ev.step (f := fun _ => some (T == 0 && D == 0)) (fun k => ?_) (Ev.now _)
          simp only [impl_IsBall.j0]
          rw [if_neg (by decide), hn, if_pos h0]
          by_cases hT : T = 0
          · simp [hT]
          · simp [hT]
        · rw [if_neg h0]
          by_cases hT0 : T ≥ 0
          · refine Ev.step (f := fun k => (impl_power.f k p (L + D)).bind fun t => if T < t then (if D = 0 then some true else if p = 0 then none else some (Int.tmod T p != 0)) else some false) (fun k => by simp only [impl_IsBall.j0]; rw [if_neg (by decide), hn, if_neg h0, if_pos hT0]) ?_
            refine Ev.bind (impl_power_ev p (L + D) (by omega)) ?_
            rw [powW_prime hp _ (by omega)]
            by_cases hT1 : T < p ^ (L + D).toNat
            · rw [if_pos hT1, decide_eq_true (show 0 ≤ T ∧ T < p ^ (L + D).toNat from ⟨hT0, hT1⟩), Bool.true_and]
              by_cases hd : D = 0
              · simp only [hd, if_true]; simp; exact Ev.now _
              · rw [if_neg hd, if_neg (by omega), show (D == 0) = false from beq_eq_false_iff_ne.2 hd, Bool.false_or]
                exact Ev.now _
            · rw [if_neg hT1, decide_eq_false (show ¬ (0 ≤ T ∧ T < p ^ (L + D).toNat) from fun h => hT1 h.2), Bool.false_and]
              exact Ev.now _
          · rw [decide_eq_false (show ¬ (0 ≤ T ∧ T < p ^ (L + D).toNat) from fun h => hT0 h.1), Bool.false_and]
            refine Ev.step (f := fun _ => some false) (fun k => ?_) (Ev.now _)
            simp only [impl_IsBall.j0]
            rw [if_neg (by decide), hn, if_neg h0, if_neg hT0]
      · rw [decide_eq_false hD, decide_eq_true (show D > 6 by omega)]; simpa using hno
    · rw [decide_eq_false hL]; simpa using hno

theorem all_evp {β : Type} (g : Nat → Nat → Option β) (n : Nat) (p : Nat → Bool) (yes no : β)
    (hstep : ∀ (i : Nat) (r : β), i < n → (∀ j, j < i → p j = true) → p i = true → Ev (fun k => g k (i + 1)) r → Ev (fun k => g k i) r)
    (hno : ∀ (i : Nat), i < n → (∀ j, j < i → p j = true) → p i = false → Ev (fun k => g k i) no)
    (hend : (∀ j, j < n → p j = true) → Ev (fun k => g k n) yes) : Ev (fun k => g k 0) (if (List.range n).all p then yes else no) := by
  have key : ∀ (d i : Nat), i + d = n → (∀ j, j < i → p j = true) → Ev (fun k => g k i) (if (List.range n).all p then yes else no) := by
    intro d
    induction d with
    | zero =>
      intro i hi hj
      obtain rfl : i = n := by omega
      rw [if_pos (List.all_eq_true.2 fun x hx => hj x (List.mem_range.1 hx))]
      exact hend hj
    | succ d ih =>
      intro i hi hj
      cases hp : p i with
      | true => exact hstep i _ (by omega) hj hp (ih (i + 1) (by omega) (fun j h => by rcases Nat.lt_or_ge j i with h2 | h2; exact hj j h2; rw [show j = i by omega]; exact hp))
      | false =>
        rw [if_neg (fun h => by have := List.all_eq_true.1 h i (List.mem_range.2 (by omega)); rw [hp] at this; cases this)]
        exact hno i (by omega) hj hp
  exact key n 0 (by omega) (fun j h => absurd h (by omega))
theorem rdP (l : List S72) (i : Nat) : rd_T72 l (i : Int) = l.getD i z72 := rfl
def pB (p : Int) (x : S72) : Bool := ballB p x.f0.f0 x.f0.f1 x.f0.f2
def pM (p : Int) (x : S72) : Int := markOf p x.f0.f1 x.f0.f2
def wB (x : S72) : Bool := decide (-1000000 ≤ x.f1 ∧ x.f1 ≤ 1000000)
def hB (p : Int) (x y : S72) : Bool := holdsB p x.f0.f0 x.f0.f1 x.f0.f2 y.f0.f0 y.f0.f1 y.f0.f2
def gB (p rL rT rD : Int) (l : List S72) (i : Nat) : Bool :=
  pB p (l.getD i z72) && (holdsB p rL rT rD (l.getD i z72).f0.f0 (l.getD i z72).f0.f1 (l.getD i z72).f0.f2 && (decide (i = 0) || decide (pM p (l.getD (i - 1) z72) < pM p (l.getD i z72))))
def apB (p : Int) (l : List S72) (i : Nat) : Bool := (List.range i).all fun j => !hB p (l.getD i z72) (l.getD j z72) && !hB p (l.getD j z72) (l.getD i z72)
def sumP (p e : Int) (l : List S72) : Nat → Int
  | 0 => 0
  | i + 1 => sumP p e l i + p ^ (e - (l.getD i z72).f0.f0).toNat
def measB (p rL rT rD : Int) (l : List S72) : Bool :=
  ballB p rL rT rD && (decide (1 ≤ l.length ∧ l.length ≤ 64) && (((List.range l.length).all (fun i => gB p rL rT rD l i && apB p l i) && sumP p (12 + rL) l l.length == p ^ 12) && l.all wB))
theorem holds_lv {p L T D L' T' D' : Int} (h : holdsB p L T D L' T' D' = true) : L ≤ L' := by
  unfold holdsB at h
  rw [Bool.and_eq_true, decide_eq_true_eq] at h
  exact h.1
section
variable {p rL rT rD : Int} {l : List S72}
theorem gB_lv {i : Nat} (h : gB p rL rT rD l i = true) : rL ≤ (l.getD i z72).f0.f0 ∧ (l.getD i z72).f0.f0 ≤ 6 ∧ pB p (l.getD i z72) = true := by
  unfold gB at h
  simp only [Bool.and_eq_true] at h
  obtain ⟨h1, h2, _⟩ := h
  have := (ball_parts h1).2.1
  exact ⟨holds_lv h2, this.2, h1⟩
theorem sumP_bd {e : Int} (hp : primeB p = true) (n : Nat) (h : ∀ j, j < n → rL ≤ (l.getD j z72).f0.f0) (he : e - rL ≤ 12) : 0 ≤ sumP p e l n ∧ sumP p e l n ≤ (n : Int) * 13841287201 := by
  induction n with
  | zero => simp [sumP]
  | succ n ih =>
    obtain ⟨i1, i2⟩ := ih (fun j hj => h j (by omega))
    have h1 := pow_13 hp (e - (l.getD n z72).f0.f0).toNat (by have := h n (by omega); omega)
    have h2 := ipow_pos (show 1 ≤ p by have := prime_lo hp; omega) (e - (l.getD n z72).f0.f0).toNat
    simp only [sumP]
    omega
theorem impl_apart_ev {x y : S72} (hx : pB p x = true) (hy : pB p y = true) : Ev (fun k => impl_apart.f k p x.f0.f0 x.f0.f1 x.f0.f2 y.f0.f0 y.f0.f1 y.f0.f2) (!hB p x y && !hB p y x) := by
  unfold impl_apart.f
  refine Ev.bind (impl_holds_ev hx hy) ?_
  show Ev _ (!holdsB p x.f0.f0 x.f0.f1 x.f0.f2 y.f0.f0 y.f0.f1 y.f0.f2 && !hB p y x)
  cases holdsB p x.f0.f0 x.f0.f1 x.f0.f2 y.f0.f0 y.f0.f1 y.f0.f2 with
  | true => simp only [if_true, Bool.not_true, Bool.false_and]; exact Ev.now _
  | false =>
    simp only [Bool.false_eq_true, if_false, Bool.not_false, Bool.true_and]
    exact Ev.bind (impl_holds_ev hy hx) (Ev.now _)
theorem impl_isWeight_ev (w : Int) : Ev (fun k => impl_isWeight.f k [w]) (decide (-1000000 ≤ w ∧ w ≤ 1000000)) := by
  unfold impl_isWeight.f
  refine Ev.bind (impl_within_ev 1000000 [w] (by omega) (by omega) (by simp)) ?_
  simp only [List.all_cons, List.all_nil, Bool.and_true]
  exact Ev.now _
theorem spec_l08Key_ev {L T D : Int} (h : ballB p L T D = true) : Ev (fun k => spec_l08Key.f k p L T D) (markOf p T D) := by
  obtain ⟨hp, hL, hD, _, _⟩ := ball_parts h
  obtain ⟨m0, m1⟩ := mark_lt h
  have m2 := pow_13 hp (L + 6).toNat (by omega)
  unfold spec_l08Key.f
  rw [wid (n := 6 - D) (by omega) (by omega)]
  refine Ev.bind (spec_l01Power_ev p _ (by omega)) ?_
  rw [powW_prime hp _ (by omega), show T * p ^ (6 - D).toNat = markOf p T D from rfl, wid (by omega) (by omega)]
  exact Ev.now _
theorem getD_take {i j : Nat} (hj : j < i) : (l.take i).getD j z72 = l.getD j z72 := by
  rw [List.getD_eq_getElem?_getD, List.getD_eq_getElem?_getD, List.getElem?_take_of_lt hj]
theorem impl_part_l1 (hl : l.length ≤ 64) (i : Nat) (hi : i < l.length) (hr : ballB p rL rT rD = true) (hj : ∀ j, j < i → gB p rL rT rD l j = true) (hg : gB p rL rT rD l i = true) (r : Bool)
    (hn : apB p l i = true → Ev (fun k => impl_isPartition.l0 k p l (sumP p (12 + rL) l (i + 1)) l l.length ((i + 1 : Nat) : Int) rL rT rD) r) (hf : apB p l i = false → r = false) :
    Ev (fun k => impl_isPartition.l1 k p l (sumP p (12 + rL) l i) l l.length i (l.take i) i (0 : Nat) rL rT rD (l.getD i z72).f0.f0 (l.getD i z72).f0.f1 (l.getD i z72).f0.f2 (l.getD i z72).f1) r := by
  have hlen : (l.take i).length = i := by rw [List.length_take]; omega
  obtain ⟨g1, g2, g3⟩ := gB_lv hg
  have hp := (ball_parts hr).1
  have hrl := (ball_parts hr).2.1
  have hall : apB p l i = true ∨ apB p l i = false := by cases apB p l i <;> simp
  have := all_evp (fun k j => impl_isPartition.l1 k p l (sumP p (12 + rL) l i) l l.length i (l.take i) i (j : Int) rL rT rD (l.getD i z72).f0.f0 (l.getD i z72).f0.f1 (l.getD i z72).f0.f2 (l.getD i z72).f1) i (fun j => !hB p (l.getD i z72) (l.getD j z72) && !hB p (l.getD j z72) (l.getD i z72)) r false (fun j r' hji hjj hpj hr' => by
      refine Ev.up ?_
      simp only [impl_isPartition.l1, rdP, hlen, getD_take hji]
      simp only [if_pos (show (j : Int) < (i : Int) by omega), if_pos (show (0 : Int) ≤ (j : Int) by omega)]
      refine Ev.bind (impl_apart_ev g3 (gB_lv (hj j hji)).2.2) ?_
      rw [hpj, wid (n := (j : Int) + 1) (by omega) (by omega)]
      simp only [if_true]
      exact hr') (fun j hji hjj hpj => by
      refine Ev.up ?_
      simp only [impl_isPartition.l1, rdP, hlen, getD_take hji]
      simp only [if_pos (show (j : Int) < (i : Int) by omega), if_pos (show (0 : Int) ≤ (j : Int) by omega)]
      refine Ev.bind (impl_apart_ev g3 (gB_lv (hj j hji)).2.2) ?_
      rw [hpj]
      simp only [Bool.false_eq_true, if_false]
      exact Ev.now _) (fun hjj => by
      refine Ev.up ?_
      simp only [impl_isPartition.l1]
      simp only [if_neg (show ¬ (i : Int) < (i : Int) by omega)]
      rw [wid (n := 12 - (l.getD i z72).f0.f0) (by omega) (by omega), wid (n := 12 - (l.getD i z72).f0.f0 + rL) (by omega) (by omega)]
      refine Ev.bind (impl_power_ev p _ (by omega)) ?_
      have hb := sumP_bd (l := l) hp (i + 1) (e := 12 + rL) (fun j hj2 => (gB_lv (show gB p rL rT rD l j = true from by rcases Nat.lt_or_ge j i with h2 | h2; exact hj j h2; rw [show j = i by omega]; exact hg)).1) (by omega)
      have he : 12 - (l.getD i z72).f0.f0 + rL = 12 + rL - (l.getD i z72).f0.f0 := by omega
      rw [powW_prime hp _ (by omega), he, show sumP p (12 + rL) l i + p ^ (12 + rL - (l.getD i z72).f0.f0).toNat = sumP p (12 + rL) l (i + 1) from rfl, wid (n := sumP p (12 + rL) l (i + 1)) (by omega) (by omega), wid (n := (i : Int) + 1) (by omega) (by omega)]
      exact hn (by unfold apB; exact List.all_eq_true.2 fun x hx => hjj x (List.mem_range.1 hx)))
  rcases hall with h | h
  · rw [show (List.range i).all (fun j => !hB p (l.getD i z72) (l.getD j z72) && !hB p (l.getD j z72) (l.getD i z72)) = true from h, if_pos rfl] at this
    exact this
  · rw [show (List.range i).all (fun j => !hB p (l.getD i z72) (l.getD j z72) && !hB p (l.getD j z72) (l.getD i z72)) = false from h] at this
    rw [hf h]
    simpa using this
theorem impl_isPartition_ev (hr : ballB p rL rT rD = true) (hl0 : l.length ≤ 4611686018427387904) : Ev (fun k => impl_isPartition.f k p rL rT rD l) (decide (1 ≤ l.length ∧ l.length ≤ 64) && ((List.range l.length).all (fun i => gB p rL rT rD l i && apB p l i) && sumP p (12 + rL) l l.length == p ^ 12)) := by
  have hp := (ball_parts hr).1
  have hrl := (ball_parts hr).2.1
  have hno : Ev (fun k => impl_isPartition.j0 k p l true rL rT rD) false := by
    refine Ev.up ?_
    simp only [impl_isPartition.j0, if_true]
    exact Ev.now _
  unfold impl_isPartition.f
  by_cases h1 : (l.length : Int) < 1
  · simp only [if_pos h1]
    rw [decide_eq_false (by omega), Bool.false_and]
    exact hno
  simp only [if_neg h1]
  by_cases h2 : (l.length : Int) > 64
  · rw [decide_eq_true h2, decide_eq_false (by omega), Bool.false_and]
    exact hno
  have hl : l.length ≤ 64 := by omega
  rw [decide_eq_false h2, decide_eq_true (show 1 ≤ l.length ∧ l.length ≤ 64 by omega), Bool.true_and]
  refine Ev.up ?_
  simp only [impl_isPartition.j0, Bool.false_eq_true, if_false]
  have := all_evp (fun k i => impl_isPartition.l0 k p l (sumP p (12 + rL) l i) l l.length (i : Int) rL rT rD) l.length (fun i => gB p rL rT rD l i && apB p l i) (sumP p (12 + rL) l l.length == p ^ 12) false ?_ ?_ ?_
  · rw [show ∀ (a b : Bool), (a && b) = if a = true then b else false from fun a b => by cases a <;> simp]
    exact this
  · intro i r hi hj hpi hr'
    simp only [Bool.and_eq_true] at hpi hj
    have hg := hpi.1
    unfold gB at hg
    simp only [Bool.and_eq_true, Bool.or_eq_true, decide_eq_true_eq] at hg
    obtain ⟨q1, q2, q3⟩ := hg
    have fin : Ev (fun k => impl_isPartition.j2 k p l (sumP p (12 + rL) l i) i l l.length i false rL rT rD (l.getD i z72).f0.f0 (l.getD i z72).f0.f1 (l.getD i z72).f0.f2 (l.getD i z72).f1) r := by
      refine Ev.up ?_
      simp only [impl_isPartition.j2, Bool.false_eq_true, if_false, Option.bind_some, Int.toNat_natCast]
      simp only [if_pos (show (0 : Int) ≤ (i : Int) by omega), if_pos (show (i : Int) ≤ (l.length : Int) by omega)]
      have hlen : (l.take i).length = i := by rw [List.length_take]; omega
      rw [hlen]
      exact impl_part_l1 hl i hi hr (fun j hj2 => (hj j hj2).1) hpi.1 r (fun _ => hr') (fun h => by rw [hpi.2] at h; cases h)
    refine Ev.up ?_
    simp only [impl_isPartition.l0, rdP]
    simp only [if_pos (show (i : Int) < (l.length : Int) by omega), if_pos (show (0 : Int) ≤ (i : Int) by omega)]
    refine Ev.bind (impl_IsBall_ev _ _ _ _) ?_
    rw [show ballB p (l.getD i z72).f0.f0 (l.getD i z72).f0.f1 (l.getD i z72).f0.f2 = true from q1]
    simp only [if_true]
    refine Ev.bind (impl_holds_ev hr q1) ?_
    rw [q2]
    simp only [if_true]
    by_cases h0 : i = 0
    · simp only [if_neg (show ¬ (i : Int) > 0 by omega)]
      exact fin
    · have hq := q3.resolve_left h0
      have hprev := (gB_lv (hj (i - 1) (by omega)).1).2.2
      simp only [if_pos (show (i : Int) > 0 by omega)]
      refine Ev.bind (impl_mark_ev q1) ?_
      rw [wid (n := (i : Int) - 1) (by omega) (by omega), show (i : Int) - 1 = ((i - 1 : Nat) : Int) by omega]
      simp only [rdP, if_pos (show (0 : Int) ≤ ((i - 1 : Nat) : Int) by omega), if_pos (show ((i - 1 : Nat) : Int) < (l.length : Int) by omega)]
      refine Ev.bind (impl_mark_ev hprev) ?_
      rw [decide_eq_false (by unfold pM at hq; omega)]
      exact fin
  · intro i hi hj hpi
    simp only [Bool.and_eq_true] at hj
    have stop : Ev (fun k => impl_isPartition.j2 k p l (sumP p (12 + rL) l i) i l l.length i true rL rT rD (l.getD i z72).f0.f0 (l.getD i z72).f0.f1 (l.getD i z72).f0.f2 (l.getD i z72).f1) false := by
      refine Ev.up ?_
      simp only [impl_isPartition.j2, if_true]
      exact Ev.now _
    have fin (hg : gB p rL rT rD l i = true) : Ev (fun k => impl_isPartition.j2 k p l (sumP p (12 + rL) l i) i l l.length i false rL rT rD (l.getD i z72).f0.f0 (l.getD i z72).f0.f1 (l.getD i z72).f0.f2 (l.getD i z72).f1) false := by
      refine Ev.up ?_
      simp only [impl_isPartition.j2, Bool.false_eq_true, if_false, Option.bind_some, Int.toNat_natCast]
      simp only [if_pos (show (0 : Int) ≤ (i : Int) by omega), if_pos (show (i : Int) ≤ (l.length : Int) by omega)]
      have hlen : (l.take i).length = i := by rw [List.length_take]; omega
      rw [hlen]
      exact impl_part_l1 hl i hi hr (fun j hj2 => (hj j hj2).1) hg false (fun h => by rw [hg, h] at hpi; cases hpi) (fun _ => rfl)
    refine Ev.up ?_
    simp only [impl_isPartition.l0, rdP]
    simp only [if_pos (show (i : Int) < (l.length : Int) by omega), if_pos (show (0 : Int) ≤ (i : Int) by omega)]
    refine Ev.bind (impl_IsBall_ev _ _ _ _) ?_
    cases q1 : ballB p (l.getD i z72).f0.f0 (l.getD i z72).f0.f1 (l.getD i z72).f0.f2 with
    | false => simp only [Bool.false_eq_true, if_false]; exact stop
    | true =>
      simp only [if_true]
      refine Ev.bind (impl_holds_ev hr q1) ?_
      cases q2 : holdsB p rL rT rD (l.getD i z72).f0.f0 (l.getD i z72).f0.f1 (l.getD i z72).f0.f2 with
      | false => simp only [Bool.false_eq_true, if_false]; exact stop
      | true =>
        simp only [if_true]
        by_cases h0 : i = 0
        · simp only [if_neg (show ¬ (i : Int) > 0 by omega)]
          exact fin (by unfold gB pB; rw [q1, q2, decide_eq_true h0]; rfl)
        · have hprev := (gB_lv (hj (i - 1) (by omega)).1).2.2
          simp only [if_pos (show (i : Int) > 0 by omega)]
          refine Ev.bind (impl_mark_ev q1) ?_
          rw [wid (n := (i : Int) - 1) (by omega) (by omega), show (i : Int) - 1 = ((i - 1 : Nat) : Int) by omega]
          simp only [rdP, if_pos (show (0 : Int) ≤ ((i - 1 : Nat) : Int) by omega), if_pos (show ((i - 1 : Nat) : Int) < (l.length : Int) by omega)]
          refine Ev.bind (impl_mark_ev hprev) ?_
          by_cases q3 : pM p (l.getD (i - 1) z72) < pM p (l.getD i z72)
          · rw [decide_eq_false (by unfold pM at q3; omega)]
            exact fin (by unfold gB pB; rw [q1, q2, decide_eq_true q3, Bool.or_true]; rfl)
          · rw [decide_eq_true (by unfold pM at q3; omega)]
            exact stop
  · intro hj
    refine Ev.up ?_
    simp only [impl_isPartition.l0]
    simp only [if_neg (show ¬ (l.length : Int) < (l.length : Int) by omega)]
    refine Ev.bind (impl_power_ev p 12 (by omega)) ?_
    rw [show (12 : Int).toNat = 12 from rfl, powW_prime hp 12 (by omega)]
    exact Ev.now _
theorem impl_IsMeasure_ev (hl : l.length ≤ 4611686018427387904) : Ev (fun k => impl_IsMeasure.f k p rL rT rD l) (measB p rL rT rD l) := by
  have hno : Ev (fun k => impl_IsMeasure.j0 k true rL rT rD l) false := by
    refine Ev.up ?_
    simp only [impl_IsMeasure.j0, if_true]
    exact Ev.now _
  unfold impl_IsMeasure.f measB
  refine Ev.bind (impl_IsBall_ev _ _ _ _) ?_
  cases hr : ballB p rL rT rD with
  | false => simp only [Bool.false_eq_true, if_false, Bool.false_and]; exact hno
  | true =>
    simp only [if_true, Bool.true_and]
    refine Ev.bind (impl_isPartition_ev hr hl) ?_
    generalize decide (1 ≤ l.length ∧ l.length ≤ 64) = D
    generalize ((List.range l.length).all (fun i => gB p rL rT rD l i && apB p l i) && sumP p (12 + rL) l l.length == p ^ 12) = A
    rw [← Bool.and_assoc]
    cases hpt : (D && A) with
    | false => simp only [Bool.not_false, Bool.false_and]; exact hno
    | true =>
      simp only [Bool.not_true, Bool.true_and]
      refine Ev.up ?_
      simp only [impl_IsMeasure.j0, Bool.false_eq_true, if_false]
      have := all_evp (fun k i => impl_IsMeasure.l0 k l l.length (i : Int)) l.length (fun i => wB (l.getD i z72)) true false (fun i r hi _ hw hr' => by
        refine Ev.up ?_
        simp only [impl_IsMeasure.l0, rdP]
        simp only [if_pos (show (i : Int) < (l.length : Int) by omega), if_pos (show (0 : Int) ≤ (i : Int) by omega)]
        refine Ev.bind (impl_isWeight_ev _) ?_
        rw [show decide (-1000000 ≤ (l.getD i z72).f1 ∧ (l.getD i z72).f1 ≤ 1000000) = true from hw, wid (n := (i : Int) + 1) (by omega) (by omega)]
        simp only [if_true]
        exact hr') (fun i hi _ hw => by
        refine Ev.up ?_
        simp only [impl_IsMeasure.l0, rdP]
        simp only [if_pos (show (i : Int) < (l.length : Int) by omega), if_pos (show (0 : Int) ≤ (i : Int) by omega)]
        refine Ev.bind (impl_isWeight_ev _) ?_
        rw [show decide (-1000000 ≤ (l.getD i z72).f1 ∧ (l.getD i z72).f1 ≤ 1000000) = false from hw]
        simp only [Bool.false_eq_true, if_false]
        exact Ev.now _) (fun _ => by
        refine Ev.up ?_
        simp only [impl_IsMeasure.l0]
        simp only [if_neg (show ¬ (l.length : Int) < (l.length : Int) by omega)]
        exact Ev.now _)
      rw [ite_tf] at this
      rw [← all_range_getD l z72 wB]
      exact this
end

def leastS (rL : Int) (l : List S72) : Nat → Int
  | 0 => rL
  | i + 1 => mx (leastS rL l i) (l.getD i z72).f0.f0
def offB (p : Int) (l : List S72) (i : Nat) : Bool := (List.range l.length).all fun k => decide (i = k) || !hB p (l.getD i z72) (l.getD k z72)
theorem mx_max (a b : Int) : mx a b = max a b := by unfold mx; split <;> omega
theorem codeB_one (p rL rT rD : Int) : codeB p [(⟨rL, rT, rD⟩ : S31)] = ballB p rL rT rD := by
  unfold codeB
  cases h : ballB p rL rT rD with
  | false => simp [h]
  | true => simp [h, (ball_parts h).1]
section
variable {p rL rT rD : Int} {l : List S72}
theorem leastS_bd (n : Nat) (h : ∀ j, j < n → rL ≤ (l.getD j z72).f0.f0 ∧ (l.getD j z72).f0.f0 ≤ 6) (h6 : rL ≤ 6) : rL ≤ leastS rL l n ∧ leastS rL l n ≤ 6 ∧ ∀ j, j < n → (l.getD j z72).f0.f0 ≤ leastS rL l n := by
  induction n with
  | zero => exact ⟨Int.le_refl _, h6, fun j hj => absurd hj (by omega)⟩
  | succ n ih =>
    obtain ⟨i1, i2, i3⟩ := ih (fun j hj => h j (by omega))
    have hn := h n (by omega)
    simp only [leastS, mx_max]
    refine ⟨by omega, by omega, fun j hj => ?_⟩
    rcases Nat.lt_or_ge j n with h2 | h2
    · have := i3 j h2; omega
    · rw [show j = n by omega]; omega
theorem sumP_mul {e f : Int} (hf : 0 ≤ f) (n : Nat) (h : ∀ j, j < n → (l.getD j z72).f0.f0 ≤ e) : sumP p (e + f) l n = sumP p e l n * p ^ f.toNat := by
  induction n with
  | zero => simp [sumP]
  | succ n ih =>
    simp only [sumP]
    rw [ih (fun j hj => h j (by omega)), show (e + f - (l.getD n z72).f0.f0).toNat = (e - (l.getD n z72).f0.f0).toNat + f.toNat by have := h n (by omega); omega, Int.pow_add, Int.add_mul]
theorem off_ap : (List.range l.length).all (offB p l) = (List.range l.length).all (apB p l) := by
  rw [Bool.eq_iff_iff]
  simp only [List.all_eq_true, List.mem_range, offB, apB, Bool.or_eq_true, Bool.and_eq_true, decide_eq_true_eq]
  constructor
  · intro h i hi j hj
    exact ⟨(h i hi j (by omega)).resolve_left (by omega), (h j (by omega) i hi).resolve_left (by omega)⟩
  · intro h i hi k hk
    rcases Nat.lt_trichotomy i k with h2 | h2 | h2
    · exact Or.inr (h k hk i h2).2
    · exact Or.inl h2
    · exact Or.inr (h i hi k h2).1
theorem meas_same (hr : ballB p rL rT rD = true) : (if (List.range l.length).all (fun i => gB p rL rT rD l i && wB (l.getD i z72)) = true then ((List.range l.length).all (offB p l) && sumP p (leastS rL l l.length) l l.length == p ^ (leastS rL l l.length - rL).toNat) else false)
    = (((List.range l.length).all (fun i => gB p rL rT rD l i && apB p l i) && sumP p (12 + rL) l l.length == p ^ 12) && l.all wB) := by
  have hp := (ball_parts hr).1
  have hrl := (ball_parts hr).2.1
  rw [off_ap, ← all_range_getD l z72 wB]
  by_cases hg : ∀ i, i < l.length → gB p rL rT rD l i = true
  · obtain ⟨m1, m2, m3⟩ := leastS_bd (rL := rL) (l := l) l.length (fun j hj => ⟨(gB_lv (hg j hj)).1, (gB_lv (hg j hj)).2.1⟩) hrl.2
    have e1 := sumP_mul (p := p) (l := l) (e := leastS rL l l.length) (f := 12 + rL - leastS rL l l.length) (by omega) l.length m3
    rw [show leastS rL l l.length + (12 + rL - leastS rL l l.length) = 12 + rL by omega] at e1
    have e2 : p ^ 12 = p ^ (leastS rL l l.length - rL).toNat * p ^ (12 + rL - leastS rL l l.length).toNat := by
      rw [← Int.pow_add]; congr 1; omega
    have hpos := ipow_pos (show 1 ≤ p by have := prime_lo hp; omega) (12 + rL - leastS rL l l.length).toNat
    have e3 : (sumP p (12 + rL) l l.length == p ^ 12) = (sumP p (leastS rL l l.length) l l.length == p ^ (leastS rL l l.length - rL).toNat) := by
      rw [Bool.eq_iff_iff, beq_iff_eq, beq_iff_eq, e1, e2]
      exact ⟨fun h => Int.eq_of_mul_eq_mul_right (by omega) h, fun h => by rw [h]⟩
    rw [e3]
    have a1 : (List.range l.length).all (fun i => gB p rL rT rD l i && wB (l.getD i z72)) = (List.range l.length).all (fun i => wB (l.getD i z72)) := by
      rw [Bool.eq_iff_iff]; simp only [List.all_eq_true, List.mem_range, Bool.and_eq_true]
      exact ⟨fun h i hi => (h i hi).2, fun h i hi => ⟨hg i hi, h i hi⟩⟩
    have a2 : (List.range l.length).all (fun i => gB p rL rT rD l i && apB p l i) = (List.range l.length).all (apB p l) := by
      rw [Bool.eq_iff_iff]; simp only [List.all_eq_true, List.mem_range, Bool.and_eq_true]
      exact ⟨fun h i hi => (h i hi).2, fun h i hi => ⟨hg i hi, h i hi⟩⟩
    rw [a1, a2]
    cases (List.range l.length).all (fun i => wB (l.getD i z72)) <;> simp
  · have a1 : (List.range l.length).all (fun i => gB p rL rT rD l i && wB (l.getD i z72)) = false := by
      rw [Bool.eq_false_iff]; intro h; simp only [List.all_eq_true, List.mem_range, Bool.and_eq_true] at h
      exact hg fun i hi => (h i hi).1
    have a2 : (List.range l.length).all (fun i => gB p rL rT rD l i && apB p l i) = false := by
      rw [Bool.eq_false_iff]; intro h; simp only [List.all_eq_true, List.mem_range, Bool.and_eq_true] at h
      exact hg fun i hi => (h i hi).1
    rw [a1, a2]
    simp
theorem spec_meas_l1 (hr : ballB p rL rT rD = true) (hl : l.length ≤ 64) (hg : ∀ j, j < l.length → gB p rL rT rD l j = true) :
    Ev (fun k => spec_l08Is.l1 k p (leastS rL l l.length) 0 (0 : Nat) rL rT rD l) ((List.range l.length).all (offB p l) && sumP p (leastS rL l l.length) l l.length == p ^ (leastS rL l l.length - rL).toNat) := by
  have hp := (ball_parts hr).1
  have hrl := (ball_parts hr).2.1
  obtain ⟨m1, m2, m3⟩ := leastS_bd (rL := rL) (l := l) l.length (fun j hj => ⟨(gB_lv (hg j hj)).1, (gB_lv (hg j hj)).2.1⟩) hrl.2
  generalize leastS rL l l.length = M at m1 m2 m3 ⊢
  have inner (i : Nat) (hi : i < l.length) (r : Bool) (hn : offB p l i = true → Ev (fun k => spec_l08Is.l1 k p M (sumP p M l (i + 1)) ((i + 1 : Nat) : Int) rL rT rD l) r) (hf : offB p l i = false → r = false) : Ev (fun k => spec_l08Is.l2 k p M (sumP p M l i) i (0 : Nat) rL rT rD l) r := by
    have := all_evp (fun k j => spec_l08Is.l2 k p M (sumP p M l i) i (j : Int) rL rT rD l) l.length (fun k => decide (i = k) || !hB p (l.getD i z72) (l.getD k z72)) r false (fun j r' hj _ hpj hr' => by
      refine Ev.up ?_
      simp only [spec_l08Is.l2, rdP]
      simp only [if_pos (show (j : Int) < (l.length : Int) by omega)]
      rw [wid (n := (j : Int) + 1) (by omega) (by omega)]
      by_cases e : i = j
      · simp only [if_pos (show (i : Int) = (j : Int) by omega)]; exact hr'
      · simp only [if_neg (show ¬ (i : Int) = (j : Int) by omega), if_pos (show (0 : Int) ≤ (i : Int) by omega), if_pos (show (i : Int) < (l.length : Int) by omega), if_pos (show (0 : Int) ≤ (j : Int) by omega)]
        refine Ev.bind (spec_l01Holds_ev (gB_lv (hg i hi)).2.2 (gB_lv (hg j hj)).2.2) ?_
        have hh : holdsB p (l.getD i z72).f0.f0 (l.getD i z72).f0.f1 (l.getD i z72).f0.f2 (l.getD j z72).f0.f0 (l.getD j z72).f0.f1 (l.getD j z72).f0.f2 = false := by
          rw [decide_eq_false e, Bool.false_or, Bool.not_eq_true'] at hpj; exact hpj
        rw [hh]
        simp only [Bool.false_eq_true, if_false]
        exact hr') (fun j hj _ hpj => by
      refine Ev.up ?_
      simp only [spec_l08Is.l2, rdP]
      simp only [if_pos (show (j : Int) < (l.length : Int) by omega)]
      by_cases e : i = j
      · rw [decide_eq_true e, Bool.true_or] at hpj; cases hpj
      · simp only [if_neg (show ¬ (i : Int) = (j : Int) by omega), if_pos (show (0 : Int) ≤ (i : Int) by omega), if_pos (show (i : Int) < (l.length : Int) by omega), if_pos (show (0 : Int) ≤ (j : Int) by omega)]
        refine Ev.bind (spec_l01Holds_ev (gB_lv (hg i hi)).2.2 (gB_lv (hg j hj)).2.2) ?_
        have hh : holdsB p (l.getD i z72).f0.f0 (l.getD i z72).f0.f1 (l.getD i z72).f0.f2 (l.getD j z72).f0.f0 (l.getD j z72).f0.f1 (l.getD j z72).f0.f2 = true := by
          rw [decide_eq_false e, Bool.false_or, Bool.not_eq_false'] at hpj; exact hpj
        rw [hh]
        simp only [if_true]
        exact Ev.now _) (fun hj => by
      refine Ev.up ?_
      simp only [spec_l08Is.l2, rdP]
      simp only [if_neg (show ¬ (l.length : Int) < (l.length : Int) by omega), if_pos (show (0 : Int) ≤ (i : Int) by omega), if_pos (show (i : Int) < (l.length : Int) by omega)]
      have hi6 := gB_lv (hg i hi)
      have hm := m3 i hi
      rw [wid (n := M - (l.getD i z72).f0.f0) (by omega) (by omega)]
      refine Ev.bind (spec_l01Power_ev p _ (by omega)) ?_
      have hb := sumP_bd (l := l) (rL := rL) (e := M) hp (i + 1) (fun j hj2 => (gB_lv (hg j (by omega))).1) (by omega)
      rw [powW_prime hp _ (by omega), show sumP p M l i + p ^ (M - (l.getD i z72).f0.f0).toNat = sumP p M l (i + 1) from rfl, wid (n := sumP p M l (i + 1)) (by omega) (by omega), wid (n := (i : Int) + 1) (by omega) (by omega)]
      exact hn (by unfold offB; exact List.all_eq_true.2 fun x hx => hj x (List.mem_range.1 hx)))
    cases h : offB p l i with
    | true =>
      rw [show (List.range l.length).all (fun k => decide (i = k) || !hB p (l.getD i z72) (l.getD k z72)) = true from h, if_pos rfl] at this
      exact this
    | false =>
      rw [show (List.range l.length).all (fun k => decide (i = k) || !hB p (l.getD i z72) (l.getD k z72)) = false from h] at this
      rw [hf h]
      simpa using this
  have := all_evp (fun k i => spec_l08Is.l1 k p M (sumP p M l i) (i : Int) rL rT rD l) l.length (offB p l) (sumP p M l l.length == p ^ (M - rL).toNat) false (fun i r hi _ hpi hr' => by
    refine Ev.up ?_
    simp only [spec_l08Is.l1]
    simp only [if_pos (show (i : Int) < (l.length : Int) by omega)]
    exact inner i hi r (fun _ => hr') (fun h => by rw [hpi] at h; cases h)) (fun i hi _ hpi => by
    refine Ev.up ?_
    simp only [spec_l08Is.l1]
    simp only [if_pos (show (i : Int) < (l.length : Int) by omega)]
    exact inner i hi false (fun h => by rw [hpi] at h; cases h) (fun _ => rfl)) (fun _ => by
    refine Ev.up ?_
    simp only [spec_l08Is.l1]
    simp only [if_neg (show ¬ (l.length : Int) < (l.length : Int) by omega)]
    rw [wid (n := M - rL) (by omega) (by omega)]
    refine Ev.bind (spec_l01Power_ev p _ (by omega)) ?_
    rw [powW_prime hp _ (by omega)]
    exact Ev.now _)
  rw [show ∀ (a b : Bool), (a && b) = if a = true then b else false from fun a b => by cases a <;> simp]
  exact this
theorem spec_l08Is_ev (hl0 : l.length ≤ 4611686018427387904) : Ev (fun k => spec_l08Is.f k p rL rT rD l) (measB p rL rT rD l) := by
  have hno : Ev (fun k => spec_l08Is.j0 k p true rL rT rD l) false := by
    refine Ev.up ?_
    simp only [spec_l08Is.j0, if_true]
    exact Ev.now _
  unfold spec_l08Is.f measB
  refine Ev.bind (spec_l01Code_ev p _ (by simp)) ?_
  rw [codeB_one]
  cases hr : ballB p rL rT rD with
  | false => simp only [Bool.false_eq_true, if_false, Bool.false_and, if_neg (show ¬ (1 : Int) = 0 by decide)]; exact hno
  | true =>
    have hp := (ball_parts hr).1
    have hrl := (ball_parts hr).2.1
    simp only [if_true, Bool.true_and]
    by_cases h1 : (l.length : Int) < 1
    · simp only [if_pos h1]
      rw [decide_eq_false (by omega), Bool.false_and]
      exact hno
    simp only [if_neg h1]
    by_cases h2 : (l.length : Int) > 64
    · rw [decide_eq_true h2, decide_eq_false (by omega), Bool.false_and]
      exact hno
    have hl : l.length ≤ 64 := by omega
    rw [decide_eq_false h2, decide_eq_true (show 1 ≤ l.length ∧ l.length ≤ 64 by omega), Bool.true_and]
    refine Ev.up ?_
    simp only [spec_l08Is.j0, Bool.false_eq_true, if_false]
    rw [← meas_same hr]
    have stop (s : Int) (i : Nat) (L T D w : Int) : Ev (fun k => spec_l08Is.j2 k p s i true rL rT rD l L T D w) false := by
      refine Ev.up ?_
      simp only [spec_l08Is.j2, if_true]
      exact Ev.now _
    exact all_evp (fun k i => spec_l08Is.l0 k p (leastS rL l i) (i : Int) rL rT rD l) l.length (fun i => gB p rL rT rD l i && wB (l.getD i z72)) _ false (fun i r hi hj hpi hr' => by
      simp only [Bool.and_eq_true] at hpi hj
      have hw : decide (-1000000 ≤ (l.getD i z72).f1 ∧ (l.getD i z72).f1 ≤ 1000000) = true := hpi.2
      have hg := hpi.1
      unfold gB at hg
      simp only [Bool.and_eq_true, Bool.or_eq_true, decide_eq_true_eq] at hg
      obtain ⟨q1, q2, q3⟩ := hg
      refine Ev.up ?_
      simp only [spec_l08Is.l0, rdP]
      simp only [if_pos (show (i : Int) < (l.length : Int) by omega), if_pos (show (0 : Int) ≤ (i : Int) by omega)]
      refine Ev.bind (spec_l01Is_ev _ _ _ _) ?_
      rw [show ballB p (l.getD i z72).f0.f0 (l.getD i z72).f0.f1 (l.getD i z72).f0.f2 = true from q1]
      simp only [if_true]
      refine Ev.bind (spec_l01Holds_ev hr q1) ?_
      rw [q2]
      simp only [if_true]
      refine Ev.bindv (In_eq _ _ _) ?_
      rw [hw]
      refine Ev.up ?_
      simp only [spec_l08Is.j2, Bool.not_true, Bool.false_eq_true, if_false]
      rw [wid (n := (i : Int) + 1) (by omega) (by omega)]
      by_cases h0 : i = 0
      · simp only [if_neg (show ¬ (i : Int) > 0 by omega)]
        exact hr'
      · have hq := q3.resolve_left h0
        have hprev := (gB_lv (hj (i - 1) (by omega)).1).2.2
        simp only [if_pos (show (i : Int) > 0 by omega)]
        rw [wid (n := (i : Int) - 1) (by omega) (by omega), show (i : Int) - 1 = ((i - 1 : Nat) : Int) by omega]
        simp only [rdP, if_pos (show (0 : Int) ≤ ((i - 1 : Nat) : Int) by omega), if_pos (show ((i - 1 : Nat) : Int) < (l.length : Int) by omega)]
        refine Ev.bind (spec_l08Key_ev hprev) (Ev.bind (spec_l08Key_ev q1) ?_)
        simp only [if_neg (show ¬ markOf p (l.getD (i - 1) z72).f0.f1 (l.getD (i - 1) z72).f0.f2 ≥ markOf p (l.getD i z72).f0.f1 (l.getD i z72).f0.f2 by unfold pM at hq; omega)]
        exact hr') (fun i hi hj hpi => by
      simp only [Bool.and_eq_true] at hj
      refine Ev.up ?_
      simp only [spec_l08Is.l0, rdP]
      simp only [if_pos (show (i : Int) < (l.length : Int) by omega), if_pos (show (0 : Int) ≤ (i : Int) by omega)]
      refine Ev.bind (spec_l01Is_ev _ _ _ _) ?_
      cases q1 : ballB p (l.getD i z72).f0.f0 (l.getD i z72).f0.f1 (l.getD i z72).f0.f2 with
      | false => simp only [Bool.false_eq_true, if_false]; exact stop _ _ _ _ _ _
      | true =>
        simp only [if_true]
        refine Ev.bind (spec_l01Holds_ev hr q1) ?_
        cases q2 : holdsB p rL rT rD (l.getD i z72).f0.f0 (l.getD i z72).f0.f1 (l.getD i z72).f0.f2 with
        | false => simp only [Bool.false_eq_true, if_false]; exact stop _ _ _ _ _ _
        | true =>
          simp only [if_true]
          refine Ev.bindv (In_eq _ _ _) ?_
          cases hw : decide (-1000000 ≤ (l.getD i z72).f1 ∧ (l.getD i z72).f1 ≤ 1000000) with
          | false => simp only [Bool.not_false]; exact stop _ _ _ _ _ _
          | true =>
            have hw2 : wB (l.getD i z72) = true := hw
            refine Ev.up ?_
            simp only [spec_l08Is.j2, Bool.not_true, Bool.false_eq_true, if_false]
            by_cases h0 : i = 0
            · have : gB p rL rT rD l i = true := by unfold gB pB; rw [q1, q2, decide_eq_true h0]; rfl
              rw [this, hw2] at hpi; cases hpi
            · have hprev := (gB_lv (hj (i - 1) (by omega)).1).2.2
              simp only [if_pos (show (i : Int) > 0 by omega)]
              rw [wid (n := (i : Int) - 1) (by omega) (by omega), show (i : Int) - 1 = ((i - 1 : Nat) : Int) by omega]
              simp only [rdP, if_pos (show (0 : Int) ≤ ((i - 1 : Nat) : Int) by omega), if_pos (show ((i - 1 : Nat) : Int) < (l.length : Int) by omega)]
              refine Ev.bind (spec_l08Key_ev hprev) (Ev.bind (spec_l08Key_ev q1) ?_)
              by_cases q3 : pM p (l.getD (i - 1) z72) < pM p (l.getD i z72)
              · have : gB p rL rT rD l i = true := by unfold gB pB; rw [q1, q2, decide_eq_true q3, Bool.or_true]; rfl
                rw [this, hw2] at hpi; cases hpi
              · simp only [if_pos (show markOf p (l.getD (i - 1) z72).f0.f1 (l.getD (i - 1) z72).f0.f2 ≥ markOf p (l.getD i z72).f0.f1 (l.getD i z72).f0.f2 by unfold pM at q3; omega)]
                exact Ev.now _) (fun hj => by
      simp only [Bool.and_eq_true] at hj
      refine Ev.up ?_
      simp only [spec_l08Is.l0]
      simp only [if_neg (show ¬ (l.length : Int) < (l.length : Int) by omega)]
      exact spec_meas_l1 hr hl (fun j h => (hj j h).1))
end

theorem gB_root {p rL rT rD : Int} {l : List S72} {i : Nat} (h : gB p rL rT rD l i = true) : holdsB p rL rT rD (l.getD i z72).f0.f0 (l.getD i z72).f0.f1 (l.getD i z72).f0.f2 = true := by
  unfold gB at h
  simp only [Bool.and_eq_true] at h
  exact h.2.1
theorem measB_parts {p rL rT rD : Int} {l : List S72} (h : measB p rL rT rD l = true) : ballB p rL rT rD = true ∧ (1 ≤ l.length ∧ l.length ≤ 64) ∧ ∀ j, j < l.length → gB p rL rT rD l j = true := by
  unfold measB at h
  simp only [Bool.and_eq_true, decide_eq_true_eq, List.all_eq_true, List.mem_range] at h
  exact ⟨h.1, h.2.1, fun j hj => (h.2.2.1.1 j hj).1⟩

def samL (x : S72) (L T D : Int) : Bool := x.f0.f0 == L && (x.f0.f1 == T && x.f0.f2 == D)
def holP (p : Int) (x : S72) (L T D : Int) : Bool := holdsB p x.f0.f0 x.f0.f1 x.f0.f2 L T D
def withL (p L T D : Int) : List S72 → Bool × Bool
  | [] => (false, false)
  | x :: r => if holP p x L T D then (true, samL x L T D) else withL p L T D r
theorem withL_cons (p L T D : Int) (x : S72) (r : List S72) : withL p L T D (x :: r) = if holP p x L T D then (true, samL x L T D) else withL p L T D r := rfl
def sumB (p L T D : Int) (l : List S72) : Nat → Int
  | 0 => 0
  | i + 1 => if holdsB p L T D (l.getD i z72).f0.f0 (l.getD i z72).f0.f1 (l.getD i z72).f0.f2 then wrap64 (sumB p L T D l i + (l.getD i z72).f1) else sumB p L T D l i
theorem ipow_dvd (p : Int) {a b : Nat} (h : a ≤ b) : p ^ a ∣ p ^ b := ⟨p ^ (b - a), by rw [← Int.pow_add, Nat.add_sub_cancel' h]⟩
theorem measB_apart {p rL rT rD : Int} {l : List S72} (h : measB p rL rT rD l = true) : ∀ i j, i < j → j < l.length → (hB p (l.getD i z72) (l.getD j z72) = false ∧ hB p (l.getD j z72) (l.getD i z72) = false) := by
  unfold measB at h
  simp only [Bool.and_eq_true, decide_eq_true_eq, List.all_eq_true, List.mem_range] at h
  intro i j hij hj
  have := (h.2.2.1.1 j hj).2
  unfold apB at this
  have := List.all_eq_true.1 this i (List.mem_range.2 hij)
  simp only [Bool.and_eq_true, Bool.not_eq_true'] at this
  exact ⟨this.2, this.1⟩
theorem Ev.all {α β : Type} {g : Nat → α → Option β} {r : α → β} (l : List α) (h : ∀ x ∈ l, Ev (fun k => g k x) (r x)) : ∃ K, ∀ k, K ≤ k → ∀ x ∈ l, g k x = some (r x) := by
  induction l with
  | nil => exact ⟨0, fun _ _ x hx => by cases hx⟩
  | cons a l ih =>
    obtain ⟨K, hK⟩ := ih (fun x hx => h x (List.mem_cons_of_mem _ hx))
    obtain ⟨K2, hK2⟩ := h a List.mem_cons_self
    refine ⟨max K K2, fun k hk x hx => ?_⟩
    rcases List.mem_cons.1 hx with rfl | hx
    · exact hK2 k (by omega)
    · exact hK k (by omega) x hx
section
variable {p rL rT rD L T D : Int} {l : List S72} (hl : l.length ≤ 64) (hb : ballB p L T D = true) (hg : ∀ j, j < l.length → pB p (l.getD j z72) = true)
include hl hb hg in
theorem spec_weight_ev : Ev (fun k => spec_l08Weight.f k p rL rT rD l L T D) (sumB p L T D l l.length) := by
  unfold spec_l08Weight.f
  have key : ∀ (d i : Nat), i + d = l.length → Ev (fun k => spec_l08Weight.l0 k p (sumB p L T D l i) i rL rT rD l L T D) (sumB p L T D l l.length) := by
    intro d
    induction d with
    | zero =>
      intro i hi
      obtain rfl : i = l.length := by omega
      refine Ev.up ?_
      simp only [spec_l08Weight.l0, if_neg (show ¬ (l.length : Int) < (l.length : Int) by omega)]
      exact Ev.now _
    | succ d ih =>
      intro i hi
      have hn := ih (i + 1) (by omega)
      refine Ev.up ?_
      simp only [spec_l08Weight.l0, rdP]
      simp only [if_pos (show (i : Int) < (l.length : Int) by omega), if_pos (show (0 : Int) ≤ (i : Int) by omega)]
      refine Ev.bind (spec_l01Holds_ev hb (hg i (by omega))) ?_
      rw [wid (n := (i : Int) + 1) (by omega) (by omega)]
      cases hh : holdsB p L T D (l.getD i z72).f0.f0 (l.getD i z72).f0.f1 (l.getD i z72).f0.f2 with
      | true =>
        rw [show sumB p L T D l (i + 1) = wrap64 (sumB p L T D l i + (l.getD i z72).f1) by rw [sumB, hh]; rfl] at hn
        simp only [if_true]; exact hn
      | false =>
        rw [show sumB p L T D l (i + 1) = sumB p L T D l i by rw [sumB, hh]; rfl] at hn
        simp only [Bool.false_eq_true, if_false]; exact hn
  exact key l.length 0 (by omega)
include hl hb hg in
include hl hb hg in
theorem spec_within_ev : Ev (fun k => spec_l08Within.f k p rL rT rD l L T D) (withL p L T D l) := by
  unfold spec_l08Within.f
  have key : ∀ (d i : Nat), i + d = l.length → Ev (fun k => spec_l08Within.l0 k p i rL rT rD l L T D) (withL p L T D (l.drop i)) := by
    intro d
    induction d with
    | zero =>
      intro i hi
      obtain rfl : i = l.length := by omega
      refine Ev.up ?_
      rw [List.drop_of_length_le (Nat.le_refl _)]
      simp only [spec_l08Within.l0, if_neg (show ¬ (l.length : Int) < (l.length : Int) by omega)]
      exact Ev.now _
    | succ d ih =>
      intro i hi
      have hn := ih (i + 1) (by omega)
      have hd : l.drop i = l.getD i z72 :: l.drop (i + 1) := by
        rw [List.drop_eq_getElem_cons (by omega), List.getD_eq_getElem?_getD, List.getElem?_eq_getElem (by omega)]; rfl
      rw [hd, withL_cons]
      refine Ev.up ?_
      simp only [spec_l08Within.l0, rdP]
      simp only [if_pos (show (i : Int) < (l.length : Int) by omega), if_pos (show (0 : Int) ≤ (i : Int) by omega)]
      refine Ev.bind (spec_l01Holds_ev (hg i (by omega)) hb) ?_
      rw [wid (n := (i : Int) + 1) (by omega) (by omega), show holdsB p (l.getD i z72).f0.f0 (l.getD i z72).f0.f1 (l.getD i z72).f0.f2 L T D = holP p (l.getD i z72) L T D from rfl]
      cases holP p (l.getD i z72) L T D with
      | true => simp only [if_true]; exact Ev.now _
      | false => simp only [Bool.false_eq_true, if_false]; exact hn
  exact key l.length 0 (by omega)
include hb hg in
end
def mcode (p rL rT rD : Int) (l : List S72) (L T D : Int) : Int := if (measB p rL rT rD l && ballB p L T D) = true then (if holdsB p rL rT rD L T D then 0 else 2) else 1
theorem spec_l08Code_ev (p rL rT rD : Int) (l : List S72) (L T D : Int) (hl : l.length ≤ 4611686018427387904) : Ev (fun k => spec_l08Code.f k p rL rT rD l L T D) (mcode p rL rT rD l L T D) := by
  have stop : Ev (fun k => spec_l08Code.j0 k p true rL rT rD l L T D) 1 := by
    refine Ev.up ?_
    simp only [spec_l08Code.j0, if_true]
    exact Ev.now _
  unfold spec_l08Code.f mcode
  refine Ev.bind (spec_l08Is_ev hl) ?_
  cases hm : measB p rL rT rD l with
  | false => simp only [Bool.false_eq_true, if_false, Bool.false_and]; exact stop
  | true =>
    simp only [if_true, Bool.true_and]
    refine Ev.bind (spec_l01Is_ev _ _ _ _) ?_
    cases hb : ballB p L T D with
    | false => simp only [Bool.false_eq_true, if_false, Bool.not_false]; exact stop
    | true =>
      simp only [if_true, Bool.not_true]
      refine Ev.up ?_
      simp only [spec_l08Code.j0, Bool.false_eq_true, if_false]
      refine Ev.bind (spec_l01Holds_ev (measB_parts hm).1 hb) ?_
      cases holdsB p rL rT rD L T D with
      | true => simp only [if_true]; exact Ev.now _
      | false => simp only [Bool.false_eq_true, if_false]; exact Ev.now _
theorem impl_measureCode_ev (p rL rT rD : Int) (l : List S72) (L T D : Int) (hl : l.length ≤ 4611686018427387904) : Ev (fun k => impl_measureCode.f k p rL rT rD l L T D) (mcode p rL rT rD l L T D) := by
  have stop : Ev (fun k => impl_measureCode.j0 k p true rL rT rD l L T D) 1 := by
    refine Ev.up ?_
    simp only [impl_measureCode.j0, if_true]
    exact Ev.now _
  unfold impl_measureCode.f mcode
  refine Ev.bind (impl_IsMeasure_ev hl) ?_
  cases hm : measB p rL rT rD l with
  | false => simp only [Bool.false_eq_true, if_false, Bool.false_and]; exact stop
  | true =>
    simp only [if_true, Bool.true_and]
    refine Ev.bind (impl_IsBall_ev _ _ _ _) ?_
    cases hb : ballB p L T D with
    | false => simp only [Bool.false_eq_true, if_false, Bool.not_false]; exact stop
    | true =>
      simp only [if_true, Bool.not_true]
      refine Ev.up ?_
      simp only [impl_measureCode.j0, Bool.false_eq_true, if_false]
      refine Ev.bind (impl_holds_ev (measB_parts hm).1 hb) ?_
      cases holdsB p rL rT rD L T D with
      | true => simp only [if_true]; exact Ev.now _
      | false => simp only [Bool.false_eq_true, if_false]; exact Ev.now _
theorem mcode_zero {p rL rT rD : Int} {l : List S72} {L T D : Int} (h : mcode p rL rT rD l L T D = 0) : measB p rL rT rD l = true ∧ ballB p L T D = true ∧ holdsB p rL rT rD L T D = true := by
  unfold mcode at h
  by_cases h1 : (measB p rL rT rD l && ballB p L T D) = true
  · rw [if_pos h1] at h
    rw [Bool.and_eq_true] at h1
    by_cases h2 : holdsB p rL rT rD L T D = true
    · exact ⟨h1.1, h1.2, h2⟩
    · rw [if_neg h2] at h; omega
  · rw [if_neg h1] at h; omega

theorem holds_dvd {p L T D L' T' D' : Int} : holdsB p L T D L' T' D' = true ↔ L ≤ L' ∧ p ^ (L + 6).toNat ∣ markOf p T' D' - markOf p T D := by
  unfold holdsB
  rw [Bool.and_eq_true, decide_eq_true_eq, beq_iff_eq]
  exact ⟨fun h => ⟨h.1, Int.dvd_of_emod_eq_zero h.2⟩, fun h => ⟨h.1, Int.emod_eq_zero_of_dvd h.2⟩⟩


def posI (p : Int) (out : List S72) (x : S72) : Nat → Nat
  | 0 => 0
  | n + 1 => if pM p (out.getD n z72) > pM p x then posI p out x n else n + 1
def insI (p : Int) (out : List S72) (x : S72) : List S72 := out.take (posI p out x out.length) ++ x :: out.drop (posI p out x out.length)
def isortN (p : Int) (l : List S72) : Nat → List S72
  | 0 => []
  | i + 1 => insI p (isortN p l i) (l.getD i z72)
theorem posI_le (p : Int) (out : List S72) (x : S72) (n : Nat) : posI p out x n ≤ n := by
  induction n with
  | zero => simp [posI]
  | succ n ih =>
    unfold posI
    split <;> omega
theorem insI_len (p : Int) (out : List S72) (x : S72) : (insI p out x).length = out.length + 1 := by
  have := posI_le p out x out.length
  unfold insI
  rw [List.length_append, List.length_take, List.length_cons, List.length_drop]
  omega
theorem isortN_len (p : Int) (l : List S72) (i : Nat) : (isortN p l i).length = i := by
  induction i with
  | zero => rfl
  | succ i ih => unfold isortN; rw [insI_len, ih]
theorem insI_perm (p : Int) (out : List S72) (x : S72) : (insI p out x).Perm (x :: out) := by
  unfold insI
  refine (List.perm_middle).trans ?_
  rw [List.take_append_drop]
theorem isortN_perm (p : Int) (l : List S72) (i : Nat) (hi : i ≤ l.length) : (isortN p l i).Perm (l.take i) := by
  induction i with
  | zero => simp [isortN]
  | succ i ih =>
    unfold isortN
    refine (insI_perm p _ _).trans ((List.Perm.cons _ (ih (by omega))).trans ?_)
    have e : l.take (i + 1) = l.take i ++ [l.getD i z72] := by
      rw [List.take_add_one, List.getD_eq_getElem?_getD, List.getElem?_eq_getElem (by omega)]; rfl
    rw [e]
    exact (List.perm_append_singleton _ _).symm
theorem getD_mem {l : List S72} {i : Nat} (h : i < l.length) : l.getD i z72 ∈ l := by
  rw [List.getD_eq_getElem?_getD, List.getElem?_eq_getElem h]
  exact List.getElem_mem h
theorem isortN_mem {p : Int} {l : List S72} {i : Nat} (hi : i ≤ l.length) {x : S72} (h : x ∈ isortN p l i) : x ∈ l := List.mem_of_mem_take ((isortN_perm p l i hi).mem_iff.1 h)
theorem spec_l08Sorted_ev {p : Int} {l : List S72} (hl : l.length ≤ 1048576) (hb : ∀ x ∈ l, pB p x = true) : Ev (fun k => spec_l08Sorted.f k p l) (isortN p l l.length) := by
  have inner : ∀ (i : Nat) (out : List S72) (r : List S72), i < l.length → out.length = i → (∀ x ∈ out, pB p x = true) → ∀ n, n ≤ out.length → Ev (fun k => spec_l08Sorted.l0 k p l (out.take (posI p out (l.getD i z72) n) ++ l.getD i z72 :: out.drop (posI p out (l.getD i z72) n)) ((i + 1 : Nat) : Int)) r → Ev (fun k => spec_l08Sorted.l1 k p l out i (n : Int)) r := by
    intro i out r hi ho hbo n
    induction n with
    | zero =>
      intro _ h
      refine Ev.up ?_
      simp only [spec_l08Sorted.l1]
      simp only [if_neg (show ¬ ((0 : Nat) : Int) > 0 by omega), if_pos (show (0 : Int) ≤ (i : Int) by omega), if_pos (show (i : Int) < (l.length : Int) by omega), Option.bind_some, if_pos (show (0 : Int) ≤ ((0 : Nat) : Int) by omega), if_pos (show ((0 : Nat) : Int) ≤ (out.length : Int) by omega), Int.toNat_natCast, List.length_append, List.length_take, List.length_drop, List.length_cons, List.length_nil, List.nil_append]
      simp only [if_pos (show 0 + 1 + (out.length - 0) < 4398046511104 by omega), if_pos (show 0 + min 0 out.length < 4398046511104 by omega), if_pos (show 0 + min 0 out.length + (0 + 1 + (out.length - 0)) < 4398046511104 by omega)]
      rw [wid (n := (i : Int) + 1) (by omega) (by omega)]
      exact h
    | succ n ih =>
      intro hn h
      have hm : out.getD n z72 ∈ out := getD_mem (by omega)
      refine Ev.up ?_
      simp only [spec_l08Sorted.l1]
      simp only [if_pos (show ((n + 1 : Nat) : Int) > 0 by omega)]
      rw [wid (n := ((n + 1 : Nat) : Int) - 1) (by omega) (by omega), show ((n + 1 : Nat) : Int) - 1 = (n : Int) by omega]
      simp only [if_pos (show (0 : Int) ≤ (n : Int) by omega), if_pos (show (n : Int) < (out.length : Int) by omega), if_pos (show (0 : Int) ≤ (i : Int) by omega), if_pos (show (i : Int) < (l.length : Int) by omega), rdP]
      refine Ev.bind (spec_l08Key_ev (hbo _ hm)) (Ev.bind (spec_l08Key_ev (hb _ (getD_mem hi))) ?_)
      by_cases hgt : pM p (out.getD n z72) > pM p (l.getD i z72)
      · simp only [if_pos (show markOf p (out.getD n z72).f0.f1 (out.getD n z72).f0.f2 > markOf p (l.getD i z72).f0.f1 (l.getD i z72).f0.f2 from hgt)]
        unfold posI at h
        rw [if_pos hgt] at h
        exact ih (by omega) h
      · unfold posI at h
        rw [if_neg hgt] at h
        simp only [if_neg (show ¬ markOf p (out.getD n z72).f0.f1 (out.getD n z72).f0.f2 > markOf p (l.getD i z72).f0.f1 (l.getD i z72).f0.f2 from hgt), Option.bind_some, if_pos (show (0 : Int) ≤ ((n + 1 : Nat) : Int) by omega), if_pos (show ((n + 1 : Nat) : Int) ≤ (out.length : Int) by omega), Int.toNat_natCast, List.length_append, List.length_take, List.length_drop, List.length_cons, List.length_nil, List.nil_append]
        simp only [if_pos (show 0 + 1 + (out.length - (n + 1)) < 4398046511104 by omega), if_pos (show 0 + min (n + 1) out.length < 4398046511104 by omega), if_pos (show 0 + min (n + 1) out.length + (0 + 1 + (out.length - (n + 1))) < 4398046511104 by omega)]
        rw [wid (n := (i : Int) + 1) (by omega) (by omega)]
        exact h
  unfold spec_l08Sorted.f
  have key : ∀ (d i : Nat), i + d = l.length → Ev (fun k => spec_l08Sorted.l0 k p l (isortN p l i) i) (isortN p l l.length) := by
    intro d
    induction d with
    | zero =>
      intro i hi
      obtain rfl : i = l.length := by omega
      refine Ev.up ?_
      simp only [spec_l08Sorted.l0, if_neg (show ¬ (l.length : Int) < (l.length : Int) by omega)]
      exact Ev.now _
    | succ d ih =>
      intro i hi
      refine Ev.up ?_
      simp only [spec_l08Sorted.l0, if_pos (show (i : Int) < (l.length : Int) by omega)]
      have hlen := isortN_len p l i
      refine inner i (isortN p l i) _ (by omega) hlen (fun x hx => hb x (isortN_mem (by omega) hx)) _ (Nat.le_refl _) ?_
      exact ih (i + 1) (by omega)
  exact key l.length 0 (by omega)
def toldW (p rL rT rD : Int) (q : List S72) : Int × Int × Int × List S72 × Int :=
  if q.length ≤ 64 ∧ q.all wB = true then (rL, rT, rD, isortN p q q.length, 0) else (0, 0, 0, [], 3)
theorem all_range {l : List S72} (f : S72 → Bool) : (List.range l.length).all (fun i => f (l.getD i z72)) = l.all f := by
  rw [Bool.eq_iff_iff, List.all_eq_true, List.all_eq_true]
  constructor
  · intro h x hx
    obtain ⟨i, hi, rfl⟩ := List.mem_iff_getElem.1 hx
    have := h i (List.mem_range.2 hi)
    rwa [List.getD_eq_getElem?_getD, List.getElem?_eq_getElem hi] at this
  · intro h i hi
    exact h _ (getD_mem (List.mem_range.1 hi))
theorem spec_l08Told_ev {p rL rT rD : Int} {q : List S72} (hl : q.length ≤ 1048576) (hb : ∀ x ∈ q, pB p x = true) : Ev (fun k => spec_l08Told.f k p rL rT rD q) (toldW p rL rT rD q) := by
  unfold spec_l08Told.f toldW
  by_cases h64 : (q.length : Int) > 64
  · simp only [if_pos h64]
    rw [if_neg (by omega)]
    exact Ev.now _
  · simp only [if_neg h64]
    have := all_evp (fun k i => spec_l08Told.l0 k p q (i : Int) rL rT rD) q.length (fun i => wB (q.getD i z72)) (rL, rT, rD, isortN p q q.length, (0 : Int)) (0, 0, 0, [], 3) (fun i r hi _ hpi hr => by
        refine Ev.up ?_
        simp only [spec_l08Told.l0, rdP, if_pos (show (i : Int) < (q.length : Int) by omega), if_pos (show (0 : Int) ≤ (i : Int) by omega)]
        refine Ev.bindv (In_eq _ _ _) ?_
        rw [show decide (-1000000 ≤ (q.getD i z72).f1 ∧ (q.getD i z72).f1 ≤ 1000000) = true from hpi, wid (n := (i : Int) + 1) (by omega) (by omega)]
        simp only [if_true]
        exact hr) (fun i hi _ hpi => by
        refine Ev.up ?_
        simp only [spec_l08Told.l0, rdP, if_pos (show (i : Int) < (q.length : Int) by omega), if_pos (show (0 : Int) ≤ (i : Int) by omega)]
        refine Ev.bindv (In_eq _ _ _) ?_
        rw [show decide (-1000000 ≤ (q.getD i z72).f1 ∧ (q.getD i z72).f1 ≤ 1000000) = false from hpi]
        simp only [Bool.false_eq_true, if_false]
        exact Ev.now _) (fun _ => by
        refine Ev.up ?_
        simp only [spec_l08Told.l0, if_neg (show ¬ (q.length : Int) < (q.length : Int) by omega)]
        exact Ev.bind (spec_l08Sorted_ev hl hb) (Ev.now _))
    rw [all_range] at this
    by_cases ha : q.all wB = true
    · rw [if_pos ha] at this; rw [if_pos ⟨by omega, ha⟩]; exact this
    · rw [if_neg ha] at this; rw [if_neg (fun h => ha h.2)]; exact this

theorem samL_iff {x : S72} {L T D : Int} : samL x L T D = true ↔ x.f0.f0 = L ∧ x.f0.f1 = T ∧ x.f0.f2 = D := by
  unfold samL
  simp only [Bool.and_eq_true, beq_iff_eq]
section
variable {p rL rT rD : Int} {l : List S72} (h : measB p rL rT rD l = true)
include h
theorem meas_own {i : Nat} (hi : i < l.length) : pB p (l.getD i z72) = true ∧ rL ≤ (l.getD i z72).f0.f0 ∧ (l.getD i z72).f0.f0 ≤ 6 ∧ holdsB p rL rT rD (l.getD i z72).f0.f0 (l.getD i z72).f0.f1 (l.getD i z72).f0.f2 = true := by
  obtain ⟨_, _, hg⟩ := measB_parts h
  have a := gB_lv (hg i hi)
  exact ⟨a.2.2, a.1, a.2.1, gB_root (hg i hi)⟩
theorem meas_asc : ∀ j, j < l.length → ∀ i, i < j → pM p (l.getD i z72) < pM p (l.getD j z72) := by
  obtain ⟨_, _, hg⟩ := measB_parts h
  intro j
  induction j with
  | zero => intro _ i hi; exact absurd hi (Nat.not_lt_zero _)
  | succ j ih =>
    intro hj i hi
    have hs : pM p (l.getD j z72) < pM p (l.getD (j + 1) z72) := by
      have g := hg (j + 1) hj
      unfold gB at g
      simp only [Bool.and_eq_true, Bool.or_eq_true, decide_eq_true_eq] at g
      rcases g.2.2 with g | g
      · omega
      · exact g
    rcases Nat.lt_or_ge i j with hl | hl
    · have := ih (by omega) i hl; omega
    · have : i = j := by omega
      subst this; exact hs
end
def sortW (p : Int) (l : List S72) : List S72 := l.mergeSort fun x y => decide (pM p x ≤ pM p y)
theorem sortW_perm (p : Int) (l : List S72) : (sortW p l).Perm l := List.mergeSort_perm l _
theorem sortW_len (p : Int) (l : List S72) : (sortW p l).length = l.length := (sortW_perm p l).length_eq
theorem nodup_inj {f : S72 → Int} {l : List S72} (h : (l.map f).Nodup) : ∀ x ∈ l, ∀ y ∈ l, f x = f y → x = y := by
  induction l with
  | nil => intro x hx; cases hx
  | cons a l ih =>
    rw [List.map_cons, List.nodup_cons] at h
    intro x hx y hy e
    rcases List.mem_cons.1 hx with hx1 | hx1 <;> rcases List.mem_cons.1 hy with hy1 | hy1
    · rw [hx1, hy1]
    · exact absurd (List.mem_map.2 ⟨y, hy1, by rw [← e, hx1]⟩) h.1
    · exact absurd (List.mem_map.2 ⟨x, hx1, by rw [e, hy1]⟩) h.1
    · exact ih h.2 x hx1 y hy1 e
theorem posI_split {p : Int} {out : List S72} {x : S72} (hs : out.Pairwise fun a b => pM p a ≤ pM p b) (n : Nat) (hn : n ≤ out.length) (hr : ∀ y ∈ out.drop n, pM p x ≤ pM p y) : (∀ y ∈ out.take (posI p out x n), pM p y ≤ pM p x) ∧ ∀ y ∈ out.drop (posI p out x n), pM p x ≤ pM p y := by
  induction n with
  | zero => exact ⟨fun y hy => by simp [posI] at hy, hr⟩
  | succ n ih =>
    have hd : out.drop n = out.getD n z72 :: out.drop (n + 1) := by
      rw [List.drop_eq_getElem_cons (by omega), List.getD_eq_getElem?_getD, List.getElem?_eq_getElem (by omega)]; rfl
    unfold posI
    by_cases hgt : pM p (out.getD n z72) > pM p x
    · rw [if_pos hgt]
      refine ih (by omega) (fun y hy => ?_)
      rw [hd] at hy
      rcases List.mem_cons.1 hy with rfl | hy
      · omega
      · exact hr y hy
    · rw [if_neg hgt]
      refine ⟨fun y hy => ?_, hr⟩
      obtain ⟨j, hj, rfl⟩ := List.mem_iff_getElem.1 hy
      rw [List.length_take] at hj
      rw [List.getElem_take]
      have e : out[n] = out.getD n z72 := by rw [List.getD_eq_getElem?_getD, List.getElem?_eq_getElem (by omega)]; rfl
      rcases Nat.lt_or_ge j n with hjn | hjn
      · have := List.pairwise_iff_getElem.1 hs j n (by omega) (by omega) hjn
        rw [e] at this
        omega
      · obtain rfl : j = n := by omega
        rw [e]; omega
theorem isortN_sorted (p : Int) (l : List S72) (i : Nat) : (isortN p l i).Pairwise fun a b => pM p a ≤ pM p b := by
  induction i with
  | zero => simp [isortN]
  | succ i ih =>
    unfold isortN insI
    generalize isortN p l i = out at ih
    generalize l.getD i z72 = x
    obtain ⟨h1, h2⟩ := posI_split (x := x) ih out.length (Nat.le_refl _) (fun y hy => by rw [List.drop_of_length_le (Nat.le_refl _)] at hy; cases hy)
    have hsp : (out.take (posI p out x out.length) ++ out.drop (posI p out x out.length)).Pairwise fun a b => pM p a ≤ pM p b := by rw [List.take_append_drop]; exact ih
    rw [List.pairwise_append] at hsp
    rw [List.pairwise_append]
    refine ⟨hsp.1, List.pairwise_cons.2 ⟨h2, hsp.2.1⟩, fun a ha b hb => ?_⟩
    rcases List.mem_cons.1 hb with rfl | hb
    · exact h1 a ha
    · exact hsp.2.2 a ha b hb
theorem isortN_sortW {p : Int} {l : List S72} (hnd : (l.map (pM p)).Nodup) : isortN p l l.length = sortW p l := by
  refine List.Perm.eq_of_pairwise (le := fun a b => pM p a ≤ pM p b) ?_ (isortN_sorted p l _) ?_ ?_
  · intro a b ha hb h1 h2
    exact nodup_inj hnd a (isortN_mem (Nat.le_refl _) ha) b ((sortW_perm p l).mem_iff.1 hb) (by omega)
  · have := List.pairwise_mergeSort (le := fun x y : S72 => decide (pM p x ≤ pM p y)) (fun a b c h1 h2 => by simp only [decide_eq_true_eq] at *; omega) (fun a b => by simp only [Bool.or_eq_true, decide_eq_true_eq]; omega) l
    exact this.imp (fun h => of_decide_eq_true h)
  · have h := isortN_perm p l l.length (Nat.le_refl _)
    rw [List.take_of_length_le (Nat.le_refl _)] at h
    exact h.trans (sortW_perm p l).symm
theorem impl_sorted_ev {p rL rT rD : Int} {l : List S72} (hl0 : 0 < l.length) (hl : l.length ≤ 1048576) (hb : ∀ x ∈ l, pB p x = true) (hnd : (l.map (pM p)).Nodup) : Ev (fun k => impl_sorted.f k p rL rT rD l) (rL, rT, rD, sortW p l) := by
  obtain ⟨K, hK⟩ := Ev.all (g := fun k (x : S72) => impl_mark.f k p x.f0.f0 x.f0.f1 x.f0.f2) (r := fun x => pM p x) l (fun x hx => impl_mark_ev (hb x hx))
  refine ⟨K, fun k hk => ?_⟩
  have h := hK k hk
  have hkey : ∀ x ∈ l, impl_sorted.key k p x = pM p x := fun x hx => by unfold impl_sorted.key; rw [h x hx]; rfl
  unfold impl_sorted.f
  show (if _ then some _ else none) = some _
  rw [if_pos ⟨⟨hl0, by omega⟩, List.all_eq_true.2 fun x hx => by rw [h x hx]; rfl, by rw [List.map_congr_left hkey]; exact hnd⟩]
  have hm := List.map_mergeSort (r := fun x y => decide (impl_sorted.key k p x ≤ impl_sorted.key k p y)) (s := fun x y => decide (pM p x ≤ pM p y)) (f := fun x : S72 => x) (l := l) (fun a ha b hb => by rw [hkey a ha, hkey b hb])
  simp only [List.map_id'] at hm
  rw [hm]
  rfl

theorem meas_ball {p rL rT rD : Int} {l : List S72} (h : measB p rL rT rD l = true) : ballB p rL rT rD = true ∧ (1 ≤ l.length ∧ l.length ≤ 64) ∧ (∀ x ∈ l, pB p x = true) ∧ l.all wB = true := by
  obtain ⟨h1, h2, h3⟩ := measB_parts h
  refine ⟨h1, h2, fun x hx => ?_, ?_⟩
  · obtain ⟨i, hi, rfl⟩ := List.mem_iff_getElem.1 hx
    have := (gB_lv (h3 i hi)).2.2
    rwa [List.getD_eq_getElem?_getD, List.getElem?_eq_getElem hi] at this
  · unfold measB at h
    simp only [Bool.and_eq_true] at h
    exact h.2.2.2

theorem samL_holds {p : Int} {x : S72} {L T D : Int} (h : samL x L T D = true) : holP p x L T D = true := by
  obtain ⟨a, b, c⟩ := samL_iff.1 h
  unfold holP
  rw [holds_dvd, a, b, c]
  exact ⟨Int.le_refl _, by rw [Int.sub_self]; exact Int.dvd_zero _⟩
def parM (p L T D : Int) : Int × Int × Int := ofM p (L - 1) (markOf p T D)
def chM (p L T D c : Int) : Int × Int × Int := ofM p (L + 1) (markOf p T D + c * p ^ (L + 6).toNat)
def parW (p L T D : Int) : Int × Int × Int × Bool := if L = -6 then (0, 0, 0, false) else ((parM p L T D).1, (parM p L T D).2.1, (parM p L T D).2.2, true)
def chW (p L T D c : Int) : Int × Int × Int × Bool := if L = 6 then (0, 0, 0, false) else ((chM p L T D c).1, (chM p L T D c).2.1, (chM p L T D c).2.2, true)
theorem chM_ball {p L T D : Int} (c : Int) (h : ballB p L T D = true) (hL : L ≠ 6) : ballB p (chM p L T D c).1 (chM p L T D c).2.1 (chM p L T D c).2.2 = true := by
  obtain ⟨hp, h1, _⟩ := ball_parts h
  exact ofM_ball (L := L + 1) hp (by omega)
theorem mul_bdc {x y M N : Int} (hx : -M ≤ x ∧ x ≤ M) (hy : 1 ≤ y) (hy2 : y ≤ N) : -(M * N) ≤ x * y ∧ x * y ≤ M * N := by
  have h1 := Int.mul_nonneg (show 0 ≤ M - x by omega) (show 0 ≤ y by omega)
  have h2 := Int.mul_nonneg (show 0 ≤ M + x by omega) (show 0 ≤ y by omega)
  have h3 := Int.mul_nonneg (show 0 ≤ M by omega) (show 0 ≤ N - y by omega)
  simp only [Int.sub_mul, Int.mul_sub, Int.add_mul] at h1 h2 h3
  constructor <;> omega

theorem impl_valuation_l (p : Int) (hp : 2 ≤ p) (v : Nat) : ∀ (n u acc : Int), n = p ^ v * u → ¬ p ∣ u → n ≠ 0 → -4611686018427387904 ≤ n → n ≤ 4611686018427387904 → 0 ≤ acc → acc + v ≤ 4611686018427387904 → Ev (fun k => impl_valuation.l0 k p n acc) (acc + v) := by
  induction v with
  | zero =>
    intro n u acc h hu h0 h1 h2 h3 h4
    refine Ev.step (f := fun _ => some acc) (fun k => ?_) (by simp; exact Ev.now _)
    simp only [impl_valuation.l0]
    rw [if_neg (by omega), if_neg]
    intro e
    rw [h] at e
    exact hu (by simpa using Int.dvd_of_tmod_eq_zero e)
  | succ v ih =>
    intro n u acc h hu h0 h1 h2 h3 h4
    have hn : n = p * (p ^ v * u) := by rw [h, Int.pow_succ', Int.mul_assoc]
    have hm : Int.tmod n p = 0 := by rw [hn]; exact Int.mul_tmod_right p _
    have hd : Int.tdiv n p = p ^ v * u := by rw [hn]; exact Int.mul_tdiv_cancel_left _ (by omega)
    have hb := tdiv_bdv p (show -4611686018427387904 ≤ n ∧ n ≤ 4611686018427387904 from ⟨h1, h2⟩)
    have hne : p ^ v * u ≠ 0 := by intro e; rw [e] at hn; simp at hn; exact h0 hn
    refine Ev.step (f := fun k => impl_valuation.l0 k p (p ^ v * u) (acc + 1)) (fun k => ?_) ?_
    · simp only [impl_valuation.l0]
      rw [if_neg (by omega), if_pos hm, hd]
      rw [hd] at hb
      rw [wid (n := p ^ v * u) (by omega) (by omega), wid (n := acc + 1) (by omega) (by omega)]
    · rw [hd] at hb
      have := ih (p ^ v * u) u (acc + 1) rfl hu hne hb.1 hb.2 (by omega) (by omega)
      rw [show acc + ((v + 1 : Nat) : Int) = acc + 1 + (v : Int) from by omega]
      exact this
def valW (p n : Int) : Int := if n = 0 then 1000 else val p n
theorem impl_valuation_ev {p n : Int} (hp : 2 ≤ p) (h1 : -4611686018427387904 ≤ n) (h2 : n ≤ 4611686018427387904) : Ev (fun k => impl_valuation.f k p n) (valW p n) := by
  unfold impl_valuation.f valW
  by_cases h0 : n = 0
  · simp only [if_pos h0]; exact Ev.now _
  · simp only [if_neg h0]
    obtain ⟨u, h, hu⟩ := val_spec hp h0
    have hv := val_le_of_lt hp h0 63 (by omega)
    have := impl_valuation_l p hp (val p n) n u 0 h hu h0 h1 h2 (by omega) (by omega)
    rw [Int.zero_add] at this
    exact this

theorem impl_mod_eq {a m : Int} (hm : 1 ≤ m) (hm2 : m ≤ 2305843009213693952) : impl_mod.f a m = some (a % m) := by
  unfold impl_mod.f
  rw [if_neg (by omega), modW hm hm2]
theorem impl_ofMark_ev {p L x : Int} (hp : primeB p = true) (hL : -6 ≤ L ∧ L ≤ 6) : Ev (fun k => impl_ofMark.f k p L x) ((ofM p L x).1, (ofM p L x).2.1, (ofM p L x).2.2, true) := by
  have hp2 := prime_lo hp
  unfold impl_ofMark.f
  refine Ev.bindv (impl_isLevel_eq L) ?_
  rw [decide_eq_true hL]
  simp only [if_true]
  rw [wid (n := L + 6) (by omega) (by omega)]
  refine Ev.bind (impl_power_ev p (L + 6) (by omega)) ?_
  rw [powW_prime hp _ (by omega)]
  have m1 := ipow_pos (p := p) (by omega) (L + 6).toNat
  have m2 := pow_13 hp (L + 6).toNat (by omega)
  refine Ev.bindv (impl_mod_eq m1 (by omega)) ?_
  have x0 := Int.emod_nonneg x (show p ^ (L + 6).toNat ≠ 0 by omega)
  have x1 := Int.emod_lt_of_pos x (show 0 < p ^ (L + 6).toNat by omega)
  refine Ev.bind (impl_valuation_ev hp2 (by omega) (by omega)) ?_
  have hv : valW p (x % p ^ (L + 6).toNat) ≤ 1000 ∧ 0 ≤ valW p (x % p ^ (L + 6).toNat) := by
    unfold valW
    split
    · omega
    · rename_i h0
      have := val_le_of_lt hp2 h0 62 (by omega)
      omega
  have hdn : mx (wrap64 (6 - valW p (x % p ^ (L + 6).toNat))) 0 = (ofM p L x).2.2 := by
    rw [wid (n := 6 - valW p (x % p ^ (L + 6).toNat)) (by omega) (by omega)]
    unfold ofM valW mx
    simp only
    by_cases h0 : x % p ^ (L + 6).toNat = 0
    · rw [if_pos h0, if_pos h0]; rfl
    · rw [if_neg h0, if_neg h0]
      by_cases h6 : ((val p (x % p ^ (L + 6).toNat) : Nat) : Int) < 6
      · rw [if_neg (by omega), if_pos h6]
      · rw [if_neg h6]; split <;> omega
  rw [hdn]
  obtain ⟨_, hD, _⟩ := ofM_back (p := p) (L := L) (X := x) hp2
  rw [wid (n := 6 - (ofM p L x).2.2) (by omega) (by omega)]
  refine Ev.bind (impl_power_ev p _ (by omega)) ?_
  rw [powW_prime hp _ (by omega)]
  have q1 := ipow_pos (p := p) (by omega) (6 - (ofM p L x).2.2).toNat
  simp only [if_neg (show ¬ p ^ (6 - (ofM p L x).2.2).toNat = 0 by omega)]
  rw [tdiv_cast x0]
  have hT : x % p ^ (L + 6).toNat / p ^ (6 - (ofM p L x).2.2).toNat = (ofM p L x).2.1 := rfl
  have d0 := Int.ediv_nonneg x0 (show 0 ≤ p ^ (6 - (ofM p L x).2.2).toNat by omega)
  have d1 := Int.ediv_le_self (p ^ (6 - (ofM p L x).2.2).toNat) x0
  rw [wid (n := x % p ^ (L + 6).toNat / p ^ (6 - (ofM p L x).2.2).toNat) (by omega) (by omega), hT]
  exact Ev.now _
theorem impl_ofMark_out {p L x : Int} (hL : ¬ (-6 ≤ L ∧ L ≤ 6)) : Ev (fun k => impl_ofMark.f k p L x) (0, 0, 0, false) := by
  unfold impl_ofMark.f
  refine Ev.bindv (impl_isLevel_eq L) ?_
  rw [decide_eq_false hL]
  simp only [Bool.false_eq_true, if_false]
  exact Ev.now _

theorem impl_parent_ev {p L T D : Int} (h : ballB p L T D = true) : Ev (fun k => impl_parent.f k p L T D) (parW p L T D) := by
  obtain ⟨hp, hL, _⟩ := ball_parts h
  unfold impl_parent.f parW
  refine Ev.bind (impl_mark_ev h) ?_
  rw [wid (n := L - 1) (by omega) (by omega)]
  by_cases h6 : L = -6
  · rw [if_pos h6]
    exact Ev.bind (impl_ofMark_out (by omega)) (Ev.now _)
  · rw [if_neg h6]
    exact Ev.bind (impl_ofMark_ev hp (by omega)) (Ev.now _)
theorem impl_child_ev {p L T D c : Int} (h : ballB p L T D = true) (hc : -1000 ≤ c ∧ c ≤ 1000) : Ev (fun k => impl_child.f k p L T D c) (chW p L T D c) := by
  obtain ⟨hp, hL, _⟩ := ball_parts h
  have hp2 := prime_lo hp
  obtain ⟨m0, m1⟩ := mark_lt h
  have q1 := ipow_pos (p := p) (by omega) (L + 6).toNat
  have q2 := pow_13 hp (L + 6).toNat (by omega)
  have a1 := mul_bdc hc q1 q2
  unfold impl_child.f chW
  refine Ev.bind (impl_mark_ev h) ?_
  rw [wid (n := L + 6) (by omega) (by omega)]
  refine Ev.bind (impl_power_ev p _ (by omega)) ?_
  rw [powW_prime hp _ (by omega), wid (n := L + 1) (by omega) (by omega), wid (n := c * p ^ (L + 6).toNat) (by omega) (by omega), wid (n := markOf p T D + c * p ^ (L + 6).toNat) (by omega) (by omega)]
  by_cases h6 : L = 6
  · rw [if_pos h6]
    exact Ev.bind (impl_ofMark_out (by omega)) (Ev.now _)
  · rw [if_neg h6]
    exact Ev.bind (impl_ofMark_ev hp (by omega)) (Ev.now _)
theorem impl_neighbour_ev {p L T D : Int} (c : Int) (h : ballB p L T D = true) (hc : 0 ≤ c ∧ c ≤ 1000) : Ev (fun k => impl_neighbour.f k p L T D c) (if c = 0 then parW p L T D else chW p L T D (c - 1)) := by
  unfold impl_neighbour.f
  by_cases h0 : c = 0
  · simp only [if_pos h0]; exact Ev.bind (impl_parent_ev h) (Ev.now _)
  · simp only [if_neg h0]
    rw [wid (n := c - 1) (by omega) (by omega)]
    exact Ev.bind (impl_child_ev h (by omega)) (Ev.now _)

theorem spec_l01Child_ev {p L T D c : Int} (h : ballB p L T D = true) (hc : -1000 ≤ c ∧ c ≤ 1000) : Ev (fun k => spec_l01Child.f k p L T D c) (chW p L T D c) := by
  obtain ⟨hp, hL, hD, _⟩ := ball_parts h
  have hp2 := prime_lo hp
  have hT := ball_num h
  have pD := pow_13 hp D.toNat (by omega)
  have pD1 := ipow_pos (p := p) (by omega) D.toNat
  unfold spec_l01Child.f chW
  by_cases h6 : L = 6
  · simp only [if_pos h6]; exact Ev.now _
  simp only [if_neg h6]
  refine Ev.bind (spec_l01Power_ev p D (by omega)) ?_
  rw [powW_prime hp _ (by omega)]
  by_cases h0 : L ≥ 0
  · simp only [if_pos h0]
    refine Ev.bind (spec_l01Power_ev p L (by omega)) ?_
    rw [powW_prime hp _ (by omega)]
    have qL := pow_13 hp (L.toNat + D.toNat) (by omega)
    have qL1 := ipow_pos (p := p) (by omega) (L.toNat + D.toNat)
    have a1 := mul_bdc hc pD1 pD
    have a2 := mul_bdc hc qL1 qL
    have e1 : c * p ^ D.toNat * p ^ L.toNat = c * p ^ (L.toNat + D.toNat) := by rw [Int.mul_assoc, ← Int.pow_add, Nat.add_comm]
    rw [wid (n := c * p ^ D.toNat) (by omega) (by omega), e1, wid (n := c * p ^ (L.toNat + D.toNat)) (by omega) (by omega), wid (n := T + c * p ^ (L.toNat + D.toNat)) (by omega) (by omega), wid (n := L + 1) (by omega) (by omega)]
    have := spec_l01Of_pow (num := T + c * p ^ (L.toNat + D.toNat)) (L := L + 1) D.toNat hp (by omega) (by omega) (by omega) (by omega)
    rw [show (T + c * p ^ (L.toNat + D.toNat)) * p ^ (6 - D.toNat) = markOf p T D + c * p ^ (L + 6).toNat from by
      rw [Int.add_mul, Int.mul_assoc, ← Int.pow_add, show L.toNat + D.toNat + (6 - D.toNat) = (L + 6).toNat from by omega, show 6 - D.toNat = (6 - D).toNat from by omega]; rfl] at this
    exact Ev.bind this (Ev.now _)
  · simp only [if_neg h0]
    rw [wid (n := -L) (by omega) (by omega)]
    have pL := pow_13 hp (-L).toNat (by omega)
    have pL1 := ipow_pos (p := p) (by omega) (-L).toNat
    refine Ev.bind (spec_l01Power_ev p (-L) (by omega)) ?_
    rw [powW_prime hp _ (by omega)]
    simp only [if_neg (show ¬ p ^ D.toNat = 0 by omega), if_neg (show ¬ p ^ (-L).toNat = 0 by omega)]
    obtain ⟨E, hE, hE2, hE3, hE4⟩ : ∃ E : Nat, mx (p ^ D.toNat) (p ^ (-L).toNat) = p ^ E ∧ D.toNat ≤ E ∧ (-L).toNat ≤ E ∧ E ≤ 6 := by
      by_cases hc2 : D.toNat ≤ (-L).toNat
      · refine ⟨(-L).toNat, ?_, hc2, Nat.le_refl _, by omega⟩
        have := ipow_mono (p := p) (by omega) hc2
        rw [mx_eq]; split <;> omega
      · refine ⟨D.toNat, ?_, Nat.le_refl _, by omega, by omega⟩
        have := ipow_mono (p := p) (by omega) (show (-L).toNat ≤ D.toNat by omega)
        rw [mx_eq]; split <;> omega
    rw [hE]
    have hpow : ∀ j : Nat, p ^ j ≠ 0 := fun j => Int.pow_ne_zero (by omega)
    have d1 : Int.tdiv (p ^ E) (p ^ D.toNat) = p ^ (E - D.toNat) := by
      rw [show p ^ E = p ^ D.toNat * p ^ (E - D.toNat) from by rw [← Int.pow_add]; congr 1; omega]
      exact Int.mul_tdiv_cancel_left _ (hpow _)
    have d2 : Int.tdiv (p ^ E) (p ^ (-L).toNat) = p ^ (E - (-L).toNat) := by
      rw [show p ^ E = p ^ (-L).toNat * p ^ (E - (-L).toNat) from by rw [← Int.pow_add]; congr 1; omega]
      exact Int.mul_tdiv_cancel_left _ (hpow _)
    have b1 := pow_13 hp (E - D.toNat) (by omega)
    have b2 := ipow_pos (p := p) (by omega) (E - D.toNat)
    have b5 : p ^ (E - D.toNat) ≤ 117649 := by
      have h1 : p ^ (E - D.toNat) ≤ p ^ 6 := ipow_mono (by omega) (by omega)
      have h2 : p ^ 6 ≤ 117649 := by rcases prime_cases hp with rfl | rfl | rfl | rfl <;> decide
      omega
    have b3 := pow_13 hp (E - (-L).toNat) (by omega)
    have b4 := ipow_pos (p := p) (by omega) (E - (-L).toNat)
    rw [d1, d2, wid (n := p ^ (E - D.toNat)) (by omega) (by omega), wid (n := p ^ (E - (-L).toNat)) (by omega) (by omega)]
    have a1 : T * p ^ (E - D.toNat) ≤ 13841287201 * 117649 := Int.mul_le_mul hT.2 b5 (by omega) (by omega)
    have a0 : 0 ≤ T * p ^ (E - D.toNat) := Int.mul_nonneg hT.1 (by omega)
    have a2 := mul_bdc hc b4 b3
    rw [wid (n := T * p ^ (E - D.toNat)) (by omega) (by omega), wid (n := c * p ^ (E - (-L).toNat)) (by omega) (by omega), wid (n := T * p ^ (E - D.toNat) + c * p ^ (E - (-L).toNat)) (by omega) (by omega), wid (n := L + 1) (by omega) (by omega)]
    have := spec_l01Of_pow (num := T * p ^ (E - D.toNat) + c * p ^ (E - (-L).toNat)) (L := L + 1) E hp hE4 (by omega) (by omega) (by omega)
    rw [show (T * p ^ (E - D.toNat) + c * p ^ (E - (-L).toNat)) * p ^ (6 - E) = markOf p T D + c * p ^ (L + 6).toNat from by
      rw [Int.add_mul, Int.mul_assoc, Int.mul_assoc, ← Int.pow_add, ← Int.pow_add, show E - (-L).toNat + (6 - E) = (L + 6).toNat from by omega, show E - D.toNat + (6 - E) = (6 - D).toNat from by omega]; rfl] at this
    exact Ev.bind this (Ev.now _)

def chP (p : Int) (x : S72) (c : Nat) : S31 := ⟨(chM p x.f0.f0 x.f0.f1 x.f0.f2 (c : Int)).1, (chM p x.f0.f0 x.f0.f1 x.f0.f2 (c : Int)).2.1, (chM p x.f0.f0 x.f0.f1 x.f0.f2 (c : Int)).2.2⟩
def kidP (p : Int) (ws : List Int) (x : S72) (c : Nat) : S72 := ⟨chP p x c, wrap64 (x.f1 * rd ws (c : Int))⟩
theorem kid_ball {p : Int} {ws : List Int} {x : S72} (h : pB p x = true) (hL : x.f0.f0 ≠ 6) (c : Nat) : pB p (kidP p ws x c) = true ∧ (kidP p ws x c).f0.f0 = x.f0.f0 + 1 := ⟨chM_ball (c : Int) h hL, rfl⟩
theorem kid_mark {p : Int} {ws : List Int} {x : S72} (h : pB p x = true) (hL : x.f0.f0 ≠ 6) (c : Nat) (hc : (c : Int) < p) : pM p (kidP p ws x c) = pM p x + (c : Int) * p ^ (x.f0.f0 + 6).toNat := by
  obtain ⟨hp, h1, _⟩ := ball_parts h
  have hp2 := prime_lo hp
  obtain ⟨m0, m1⟩ := mark_lt h
  have hb := (kid_ball (ws := ws) h hL c).1
  have e := ofM_back (p := p) (L := x.f0.f0 + 1) (X := markOf p x.f0.f1 x.f0.f2 + (c : Int) * p ^ (x.f0.f0 + 6).toNat) hp2
  show (chM p x.f0.f0 x.f0.f1 x.f0.f2 (c : Int)).2.1 * p ^ (6 - (chM p x.f0.f0 x.f0.f1 x.f0.f2 (c : Int)).2.2).toNat = _
  unfold chM
  rw [e.1]
  have q := ipow_pos (p := p) (by omega) (x.f0.f0 + 6).toNat
  have e2 : p ^ (x.f0.f0 + 1 + 6).toNat = p ^ (x.f0.f0 + 6).toNat * p := by rw [← Int.pow_succ]; congr 1; omega
  have h3 : (c : Int) * p ^ (x.f0.f0 + 6).toNat ≤ (p - 1) * p ^ (x.f0.f0 + 6).toNat := Int.mul_le_mul_of_nonneg_right (by omega) (by omega)
  have h4 : 0 ≤ (c : Int) * p ^ (x.f0.f0 + 6).toNat := Int.mul_nonneg (by omega) (by omega)
  rw [Int.sub_mul, Int.one_mul, Int.mul_comm p] at h3
  rw [Int.emod_eq_of_lt (by omega) (by rw [e2]; omega)]
  rfl

theorem spec_l02Children_ev {p L T D : Int} {x : S72} (h : pB p x = true) (n : Nat) (hn : (n : Int) = p) (hL : x.f0.f0 = L) (hT : x.f0.f1 = T) (hD : x.f0.f2 = D) : Ev (fun k => spec_l02Children.f k p L T D) (if L = 6 then ([], false) else ((List.range n).map (chP p x), true)) := by
  subst hL hT hD
  obtain ⟨hp, _⟩ := ball_parts h
  have hp7 := prime_hi hp
  have hp2 := prime_lo hp
  unfold spec_l02Children.f
  by_cases h6 : x.f0.f0 = 6
  · simp only [if_pos h6]
    refine Ev.up ?_
    simp only [spec_l02Children.l0, if_pos (show (0 : Int) < p by omega)]
    refine Ev.bind (spec_l01Child_ev h (by omega)) ?_
    unfold chW
    simp only [if_pos h6, Bool.false_eq_true, if_false]
    exact Ev.now _
  simp only [if_neg h6]
  have key : ∀ (d i : Nat), i + d = n → Ev (fun k => spec_l02Children.l0 k p ((List.range i).map (chP p x)) (i : Int) x.f0.f0 x.f0.f1 x.f0.f2) ((List.range n).map (chP p x), true) := by
    intro d
    induction d with
    | zero =>
      intro i hi
      obtain rfl : i = n := by omega
      refine Ev.up ?_
      simp only [spec_l02Children.l0, if_neg (show ¬ (i : Int) < p by omega)]
      exact Ev.now _
    | succ d ih =>
      intro i hi
      refine Ev.up ?_
      simp only [spec_l02Children.l0, if_pos (show (i : Int) < p by omega)]
      refine Ev.bind (spec_l01Child_ev h (by omega)) ?_
      unfold chW
      simp only [if_neg h6, if_true, if_pos (show ((List.range i).map (chP p x)).length < 5864062014805 by rw [List.length_map, List.length_range]; omega)]
      rw [wid (n := (i : Int) + 1) (by omega) (by omega)]
      have := ih (i + 1) (by omega)
      rw [List.range_succ, List.map_append] at this
      exact this
  exact key n 0 (by omega)
theorem chP_get {p : Int} {x : S72} {n j : Nat} (hj : j < n) : rd_T31 ((List.range n).map (chP p x)) (j : Int) = chP p x j := by
  show ((List.range n).map (chP p x)).getD j z31 = _
  rw [List.getD_eq_getElem?_getD, List.getElem?_eq_getElem (by simpa using hj)]
  simp
theorem pieceAt_ix (rL rT rD : Int) (l : List S72) (L T D : Int) : ∃ g, impl_pieceAt.f rL rT rD l L T D = some g ∧ ((g = -1 ∧ ∀ x ∈ l, samL x L T D = false) ∨ ∃ i : Nat, i < l.length ∧ g = i ∧ samL (l.getD i z72) L T D = true) := by
  haveI : Inhabited S72 := ⟨z72⟩
  have hget : ∀ j, j < l.length → l[j]! = l.getD j z72 := fun j hj => by
    rw [getElem!_pos l j hj, List.getD_eq_getElem?_getD, List.getElem?_eq_getElem hj]; rfl
  unfold impl_pieceAt.f impl_pieceAt_at.f
  refine ⟨_, rfl, ?_⟩
  rcases Go.Proofs.DelR.idx_spec (fun _ y => impl_pieceAt_at.p L T D y) z72 l 0 with ⟨e, hall⟩ | ⟨i, hi, e, ht, _⟩
  · refine .inl ⟨e, fun x hx => ?_⟩
    obtain ⟨j, hj, rfl⟩ := List.mem_iff_getElem.1 hx
    have := hall j hj
    rw [getElem!_pos l j hj] at this
    exact this
  · refine .inr ⟨i, hi, e.trans (by rw [Nat.zero_add]), ?_⟩
    rw [← hget i hi]
    exact ht
theorem withL_none {p L T D : Int} {l : List S72} (h : ∀ x ∈ l, samL x L T D = false) : (withL p L T D l).2 = false := by
  induction l with
  | nil => rfl
  | cons x l ih =>
    rw [withL_cons]
    split
    · exact h x List.mem_cons_self
    · exact ih fun y hy => h y (List.mem_cons_of_mem _ hy)
theorem withL_same {p L T D : Int} {l : List S72} (h : ∀ x ∈ l, holP p x L T D = true → samL x L T D = true) (he : ∃ x ∈ l, holP p x L T D = true) : (withL p L T D l).2 = true := by
  induction l with
  | nil => obtain ⟨x, hx, _⟩ := he; exact absurd hx List.not_mem_nil
  | cons x l ih =>
    rw [withL_cons]
    by_cases hx : holP p x L T D = true
    · rw [if_pos hx]; exact h x List.mem_cons_self hx
    · rw [if_neg hx]
      refine ih (fun y hy => h y (List.mem_cons_of_mem _ hy)) ?_
      obtain ⟨y, hy, hh⟩ := he
      rcases List.mem_cons.1 hy with rfl | hy
      · exact absurd hh hx
      · exact ⟨y, hy, hh⟩
def wsumN (ws : List Int) : Nat → Int
  | 0 => 0
  | n + 1 => wrap64 (wsumN ws n + rd ws (n : Int))
def newP (p : Int) (ws : List Int) (x : S72) (c : Nat) : S72 := ⟨chP p x c, rd ws (c : Int)⟩
def newL (p : Int) (ws : List Int) (x : S72) : List S72 := (List.range ws.length).map (newP p ws x)
theorem newL_take (p : Int) (ws : List Int) (x : S72) (j : Nat) (hj : j < ws.length) : (newL p ws x).take (j + 1) = (newL p ws x).take j ++ [newP p ws x j] := by
  unfold newL
  rw [List.take_succ_eq_append_getElem (by simpa using hj)]
  simp
theorem newL_len (p : Int) (ws : List Int) (x : S72) : (newL p ws x).length = ws.length := by unfold newL; simp
def refQ (p : Int) (ws : List Int) (l : List S72) (i : Nat) : List S72 := l.take i ++ l.drop (i + 1) ++ newL p ws (l.getD i z72)
def refR (p rL rT rD L : Int) (ws : List Int) (l : List S72) (i : Nat) : Int × Int × Int × List S72 × Int :=
  if L = 6 then (0, 0, 0, [], 3) else if 64 < (refQ p ws l i).length then (0, 0, 0, [], 3) else (rL, rT, rD, sortW p (refQ p ws l i), 0)
theorem impl_some_ev {p : Int} {x : S72} (h : pB p x = true) (n : Nat) (hn : (n : Int) = p) : Ev (fun k => impl_someNeighbours.f k p x.f0.f0 x.f0.f1 x.f0.f2 1) (if x.f0.f0 = 6 then ([], false) else ((List.range n).map (chP p x), true)) := by
  obtain ⟨hp, _⟩ := ball_parts h
  have hp7 := prime_hi hp
  have hp2 := prime_lo hp
  unfold impl_someNeighbours.f
  by_cases h6 : x.f0.f0 = 6
  · simp only [if_pos h6]
    refine Ev.up ?_
    simp only [impl_someNeighbours.l0, if_pos (show (1 : Int) ≤ p by omega)]
    have := impl_neighbour_ev 1 h (by omega)
    rw [if_neg (by decide)] at this
    refine Ev.bind this ?_
    unfold chW
    simp only [if_pos h6, Bool.false_eq_true, if_false]
    exact Ev.now _
  simp only [if_neg h6]
  have key : ∀ (d i : Nat), i + d = n → Ev (fun k => impl_someNeighbours.l0 k p ((List.range i).map (chP p x)) ((i : Int) + 1) x.f0.f0 x.f0.f1 x.f0.f2) ((List.range n).map (chP p x), true) := by
    intro d
    induction d with
    | zero =>
      intro i hi
      obtain rfl : i = n := by omega
      refine Ev.up ?_
      simp only [impl_someNeighbours.l0, if_neg (show ¬ (i : Int) + 1 ≤ p by omega)]
      exact Ev.now _
    | succ d ih =>
      intro i hi
      refine Ev.up ?_
      simp only [impl_someNeighbours.l0, if_pos (show (i : Int) + 1 ≤ p by omega)]
      have hnb := impl_neighbour_ev ((i : Int) + 1) h (by omega)
      rw [if_neg (by omega), show (i : Int) + 1 - 1 = i by omega] at hnb
      refine Ev.bind hnb ?_
      unfold chW
      simp only [if_neg h6, if_true, if_pos (show ((List.range i).map (chP p x)).length < 5864062014805 by rw [List.length_map, List.length_range]; omega)]
      rw [wid (n := (i : Int) + 1 + 1) (by omega) (by omega)]
      have := ih (i + 1) (by omega)
      rw [List.range_succ, List.map_append] at this
      exact this
  exact key n 0 (by omega)
section
variable {p rL rT rD L T D : Int} {l : List S72} (h : measB p rL rT rD l = true) {i : Nat} (hi : i < l.length) (hx : samL (l.getD i z72) L T D = true)
include h hi hx
theorem ref_far {j : Nat} (hj : j < l.length) (hne : j ≠ i) : holdsB p L T D (l.getD j z72).f0.f0 (l.getD j z72).f0.f1 (l.getD j z72).f0.f2 = false ∧ holP p (l.getD j z72) L T D = false ∧ samL (l.getD j z72) L T D = false := by
  obtain ⟨a, b, c⟩ := samL_iff.1 hx
  have h1 : holdsB p L T D (l.getD j z72).f0.f0 (l.getD j z72).f0.f1 (l.getD j z72).f0.f2 = hB p (l.getD i z72) (l.getD j z72) := by unfold hB; rw [a, b, c]
  have h2 : holP p (l.getD j z72) L T D = hB p (l.getD j z72) (l.getD i z72) := by unfold hB holP; rw [a, b, c]
  have h3 : holP p (l.getD j z72) L T D = false := by
    rw [h2]
    rcases Nat.lt_or_ge j i with hl | hl
    · exact (measB_apart h j i hl hi).1
    · exact (measB_apart h i j (by omega) hj).2
  refine ⟨?_, h3, ?_⟩
  · rw [h1]
    rcases Nat.lt_or_ge j i with hl | hl
    · exact (measB_apart h j i hl hi).2
    · exact (measB_apart h i j (by omega) hj).1
  · cases hs : samL (l.getD j z72) L T D with
    | false => rfl
    | true => rw [samL_holds hs] at h3; cases h3
theorem ref_sum : sumB p L T D l l.length = (l.getD i z72).f1 := by
  obtain ⟨a, b, c⟩ := samL_iff.1 hx
  obtain ⟨_, _, _, hw⟩ := meas_ball h
  have hwi : wB (l.getD i z72) = true := List.all_eq_true.1 hw _ (getD_mem hi)
  unfold wB at hwi
  rw [decide_eq_true_eq] at hwi
  have key : ∀ n, n ≤ l.length → sumB p L T D l n = if i < n then (l.getD i z72).f1 else 0 := by
    intro n
    induction n with
    | zero => intro _; rfl
    | succ n ih =>
      intro hn
      have e := ih (by omega)
      rw [sumB]
      by_cases hni : n = i
      · subst hni
        have hs : holdsB p L T D (l.getD n z72).f0.f0 (l.getD n z72).f0.f1 (l.getD n z72).f0.f2 = true := by
          rw [holds_dvd, a, b, c]
          exact ⟨Int.le_refl _, by rw [Int.sub_self]; exact Int.dvd_zero _⟩
        rw [if_pos hs, e, if_neg (Nat.lt_irrefl _), if_pos (Nat.lt_succ_self _), Int.zero_add, wid (by omega) (by omega)]
      · have hf := (ref_far h hi hx (show n < l.length by omega) hni).1
        rw [hf, if_neg (by decide), e]
        by_cases hlt : i < n
        · rw [if_pos hlt, if_pos (by omega)]
        · rw [if_neg hlt, if_neg (by omega)]
  rw [key l.length (Nat.le_refl _), if_pos hi]
theorem ref_same : (withL p L T D l).2 = true := by
  refine withL_same (fun x hx1 hh => ?_) ⟨_, getD_mem hi, samL_holds hx⟩
  obtain ⟨j, hj, rfl⟩ := List.mem_iff_getElem.1 hx1
  have ej : l.getD j z72 = l[j] := by rw [List.getD_eq_getElem?_getD, List.getElem?_eq_getElem hj]; rfl
  by_cases hne : j = i
  · subst hne; rw [← ej]; exact hx
  · have := (ref_far h hi hx hj hne).2.1
    rw [ej, hh] at this; cases this
theorem ref_filter (n : Nat) (hn : n ≤ l.length) : (l.take n).filter (fun x => !samL x L T D) = if n ≤ i then l.take n else l.take i ++ (l.take n).drop (i + 1) := by
  induction n with
  | zero => rw [if_pos (Nat.zero_le _)]; rfl
  | succ n ih =>
    have hl : n < l.length := by omega
    have en : l.getD n z72 = l[n] := by rw [List.getD_eq_getElem?_getD, List.getElem?_eq_getElem hl]; rfl
    rw [List.take_succ_eq_append_getElem hl, List.filter_append, ih (by omega)]
    by_cases hni : n = i
    · subst hni
      rw [if_pos (Nat.le_refl _), if_neg (by omega), List.filter_cons_of_neg (by rw [← en, hx]; decide)]
      rw [List.drop_of_length_le (by rw [List.length_append, List.length_take]; simp; omega)]
      rfl
    · have hf := (ref_far h hi hx hl hni).2.2
      rw [List.filter_cons_of_pos (by rw [← en, hf]; decide)]
      by_cases hle : n + 1 ≤ i
      · rw [if_pos (by omega), if_pos hle]; rfl
      · rw [if_neg (by omega), if_neg hle, List.drop_append_of_le_length (by rw [List.length_take]; omega), List.append_assoc]
        rfl
theorem ref_nodup {ws : List Int} (hws : (ws.length : Int) = p) (hL : L ≠ 6) : ((refQ p ws l i).map (pM p)).Nodup := by
  obtain ⟨a, b, c⟩ := samL_iff.1 hx
  obtain ⟨hrb, hlen, hg⟩ := measB_parts h
  obtain ⟨hp, _, _⟩ := ball_parts hrb
  have hp2 := prime_lo hp
  have hxb := (meas_own h hi).1
  have hkm : ∀ k, k < ws.length → pM p (newP p ws (l.getD i z72) k) = pM p (l.getD i z72) + (k : Int) * p ^ ((l.getD i z72).f0.f0 + 6).toNat := fun k hk => kid_mark (ws := ws) hxb (by rw [a]; exact hL) k (by omega)
  have hq := ipow_pos (p := p) (by omega) ((l.getD i z72).f0.f0 + 6).toNat
  unfold refQ
  rw [List.map_append, List.nodup_append]
  refine ⟨?_, ?_, ?_⟩
  · have hl : (l.map (pM p)).Pairwise (· < ·) := by
      rw [List.pairwise_map, List.pairwise_iff_getElem]
      intro i j hi hj hij
      have := meas_asc h j hj i hij
      rwa [List.getD_eq_getElem?_getD, List.getElem?_eq_getElem hi, List.getD_eq_getElem?_getD, List.getElem?_eq_getElem hj] at this
    have hsub : (l.take i ++ l.drop (i + 1)).Sublist l := by
      have h1 : (l.take i ++ l.drop (i + 1)).Sublist (l.take i ++ l.drop i) := (List.Sublist.refl _).append (List.drop_sublist_drop_left l (Nat.le_succ i))
      rwa [List.take_append_drop] at h1
    exact (hl.sublist (hsub.map _)).imp (fun h => by omega)
  · unfold newL
    rw [List.map_map, List.Nodup, List.pairwise_map, List.pairwise_iff_getElem]
    intro u v hu hv huv
    rw [List.length_range] at hu hv
    simp only [List.getElem_range, Function.comp]
    rw [hkm u hu, hkm v hv]
    intro e
    have e2 : (u : Int) * p ^ ((l.getD i z72).f0.f0 + 6).toNat = (v : Int) * p ^ ((l.getD i z72).f0.f0 + 6).toNat := by omega
    have := Int.eq_of_mul_eq_mul_right (by omega) e2
    omega
  · intro m1 hm1 m2 hm2 e
    obtain ⟨y, hy, rfl⟩ := List.mem_map.1 hm1
    obtain ⟨y2, hy2, rfl⟩ := List.mem_map.1 hm2
    unfold newL at hy2
    obtain ⟨k, hk, rfl⟩ := List.mem_map.1 hy2
    rw [hkm k (List.mem_range.1 hk)] at e
    obtain ⟨j, hj, hne, rfl⟩ : ∃ j, j < l.length ∧ j ≠ i ∧ l.getD j z72 = y := by
      rcases List.mem_append.1 hy with hy | hy
      · obtain ⟨j, hj, rfl⟩ := List.mem_iff_getElem.1 hy
        rw [List.length_take] at hj
        refine ⟨j, by omega, by omega, ?_⟩
        rw [List.getD_eq_getElem?_getD, List.getElem?_eq_getElem (by omega), List.getElem_take]; rfl
      · obtain ⟨j, hj, rfl⟩ := List.mem_iff_getElem.1 hy
        rw [List.length_drop] at hj
        refine ⟨i + 1 + j, by omega, by omega, ?_⟩
        rw [List.getD_eq_getElem?_getD, List.getElem?_eq_getElem (by omega), List.getElem_drop]; rfl
    obtain ⟨f1, f2, _⟩ := ref_far h hi hx hj hne
    have em : markOf p T D = pM p (l.getD i z72) := by unfold pM; rw [b, c]
    have ey : ∀ y : S72, markOf p y.f0.f1 y.f0.f2 = pM p y := fun _ => rfl
    rw [a] at e hq
    rcases Int.le_total (l.getD j z72).f0.f0 L with hle | hle
    · have : holP p (l.getD j z72) L T D = true := by
        unfold holP
        rw [holds_dvd, em, ey]
        refine ⟨hle, ?_⟩
        rw [e, show pM p (l.getD i z72) - (pM p (l.getD i z72) + (k : Int) * p ^ (L + 6).toNat) = -((k : Int) * p ^ (L + 6).toNat) by omega]
        exact Int.dvd_neg.2 (Int.dvd_trans (ipow_dvd p (b := (L + 6).toNat) (by omega)) (Int.dvd_mul_left _ _))
      rw [f2] at this; cases this
    · have : holdsB p L T D (l.getD j z72).f0.f0 (l.getD j z72).f0.f1 (l.getD j z72).f0.f2 = true := by
        rw [holds_dvd, em, ey]
        refine ⟨hle, ?_⟩
        rw [e, show pM p (l.getD i z72) + (k : Int) * p ^ (L + 6).toNat - pM p (l.getD i z72) = (k : Int) * p ^ (L + 6).toNat by omega]
        exact Int.dvd_mul_left _ _
      rw [f1] at this; cases this
theorem ref_ball {ws : List Int} (hL : L ≠ 6) : ∀ x ∈ refQ p ws l i, pB p x = true := by
  obtain ⟨a, _, _⟩ := samL_iff.1 hx
  obtain ⟨_, _, hl, _⟩ := meas_ball h
  have hxb := (meas_own h hi).1
  intro x hxm
  unfold refQ at hxm
  rcases List.mem_append.1 hxm with hxm | hxm
  · rcases List.mem_append.1 hxm with hxm | hxm
    · exact hl x (List.mem_of_mem_take hxm)
    · exact hl x (List.mem_of_mem_drop hxm)
  · obtain ⟨k, _, rfl⟩ := List.mem_map.1 hxm
    exact (kid_ball (ws := ws) hxb (by rw [a]; exact hL) k).1
theorem ref_wB {ws : List Int} (hw : ws.all (fun w => decide (-1000000 ≤ w ∧ w ≤ 1000000)) = true) : (refQ p ws l i).all wB = true := by
  obtain ⟨_, _, _, hl⟩ := meas_ball h
  rw [List.all_eq_true]
  intro x hxm
  unfold refQ at hxm
  rcases List.mem_append.1 hxm with hxm | hxm
  · rcases List.mem_append.1 hxm with hxm | hxm
    · exact List.all_eq_true.1 hl x (List.mem_of_mem_take hxm)
    · exact List.all_eq_true.1 hl x (List.mem_of_mem_drop hxm)
  · obtain ⟨k, hk, rfl⟩ := List.mem_map.1 hxm
    have hk' := List.mem_range.1 hk
    have := List.all_eq_true.1 hw _ (List.getElem_mem hk')
    rw [← rd_nat ws k hk'] at this
    exact this
theorem spec_ref {ws : List Int} (hws : (ws.length : Int) = p) (hw : ws.all (fun w => decide (-1000000 ≤ w ∧ w ≤ 1000000)) = true) : Ev (fun k => spec_RefineAt.j4 k p ws false rL rT rD l L T D) (refR p rL rT rD L ws l i) := by
  obtain ⟨a, b, c⟩ := samL_iff.1 hx
  obtain ⟨hrb, hlen, hg⟩ := measB_parts h
  obtain ⟨hp, _, _⟩ := ball_parts hrb
  have hp7 := prime_hi hp
  have hxb := (meas_own h hi).1
  refine Ev.up ?_
  simp only [spec_RefineAt.j4, Bool.false_eq_true, if_false]
  refine Ev.bind (spec_l02Children_ev hxb ws.length hws a b c) ?_
  unfold refR
  by_cases h6 : L = 6
  · simp only [if_pos h6, Bool.false_eq_true, if_false]; exact Ev.now _
  simp only [if_neg h6, if_true]
  have hql : (refQ p ws l i).length ≤ 1000 := by
    unfold refQ
    rw [List.length_append, List.length_append, List.length_take, List.length_drop, newL_len]
    omega
  have hcl : ((List.range ws.length).map (chP p (l.getD i z72))).length = ws.length := by simp
  have two : ∀ (d j : Nat), j + d = ws.length → Ev (fun k => spec_RefineAt.l2 k p ws ((List.range ws.length).map (chP p (l.getD i z72))) (l.take i ++ l.drop (i + 1) ++ (newL p ws (l.getD i z72)).take j) j rL rT rD l) (if 64 < (refQ p ws l i).length then (0, 0, 0, [], 3) else (rL, rT, rD, sortW p (refQ p ws l i), 0)) := by
    intro d
    induction d with
    | zero =>
      intro j hj
      obtain rfl : j = ws.length := by omega
      refine Ev.up ?_
      simp only [spec_RefineAt.l2, hcl, if_neg (show ¬ (ws.length : Int) < (ws.length : Int) by omega)]
      rw [show (newL p ws (l.getD i z72)).take ws.length = newL p ws (l.getD i z72) from List.take_of_length_le (by rw [newL_len]; exact Nat.le_refl _)]
      refine Ev.bind (spec_l08Told_ev (q := refQ p ws l i) (by omega) (ref_ball h hi hx h6)) ?_
      unfold toldW
      by_cases h64 : 64 < (refQ p ws l i).length
      · rw [if_neg (fun h => by omega), if_pos h64]; exact Ev.now _
      · rw [if_pos ⟨by omega, ref_wB h hi hx hw⟩, if_neg h64, isortN_sortW (ref_nodup h hi hx hws h6)]; exact Ev.now _
    | succ d ih =>
      intro j hj
      have hjl : j < ws.length := by omega
      refine Ev.up ?_
      simp only [spec_RefineAt.l2, hcl]
      have hsz : (l.take i ++ l.drop (i + 1) ++ (newL p ws (l.getD i z72)).take j).length < 4398046511104 := by
        rw [List.length_append, List.length_append, List.length_take, List.length_drop, List.length_take, newL_len]; omega
      simp only [if_pos (show (j : Int) < (ws.length : Int) by omega), if_pos (show (0 : Int) ≤ (j : Int) by omega), if_pos hsz, chP_get hjl]
      rw [wid (n := (j : Int) + 1) (by omega) (by omega)]
      have := ih (j + 1) (by omega)
      rw [newL_take p ws _ j hjl, ← List.append_assoc] at this
      exact this
  have one : ∀ (d n : Nat), n + d = l.length → Ev (fun k => spec_RefineAt.l1 k p ws ((List.range ws.length).map (chP p (l.getD i z72))) ((l.take n).filter (fun x => !samL x L T D)) n rL rT rD l L T D) (if 64 < (refQ p ws l i).length then (0, 0, 0, [], 3) else (rL, rT, rD, sortW p (refQ p ws l i), 0)) := by
    intro d
    induction d with
    | zero =>
      intro n hn
      obtain rfl : n = l.length := by omega
      refine Ev.up ?_
      simp only [spec_RefineAt.l1, if_neg (show ¬ (l.length : Int) < (l.length : Int) by omega)]
      rw [ref_filter h hi hx l.length (Nat.le_refl _), if_neg (by omega), List.take_length]
      have := two ws.length 0 (by omega)
      rw [List.take_zero, List.append_nil] at this
      exact this
    | succ d ih =>
      intro n hn
      have hnl : n < l.length := by omega
      have en : l.getD n z72 = l[n] := by rw [List.getD_eq_getElem?_getD, List.getElem?_eq_getElem hnl]; rfl
      have := ih (n + 1) (by omega)
      rw [List.take_succ_eq_append_getElem hnl, List.filter_append] at this
      have hfl : ((l.take n).filter (fun x => !samL x L T D)).length ≤ (l.take n).length := List.length_filter_le _ _
      rw [List.length_take] at hfl
      refine Ev.up ?_
      simp only [spec_RefineAt.l1]
      simp only [if_pos (show (n : Int) < (l.length : Int) by omega), if_pos (show (0 : Int) ≤ (n : Int) by omega), if_pos (show ((l.take n).filter (fun x => !samL x L T D)).length < 4398046511104 by omega)]
      rw [wid (n := (n : Int) + 1) (by omega) (by omega)]
      have es : (!((rd_T72 l (n : Int)).f0.f0 == L) || (!((rd_T72 l (n : Int)).f0.f1 == T) || !((rd_T72 l (n : Int)).f0.f2 == D))) = !samL l[n] L T D := by
        rw [rdP, en]
        unfold samL
        cases l[n].f0.f0 == L <;> cases l[n].f0.f1 == T <;> cases l[n].f0.f2 == D <;> rfl
      cases hs : samL l[n] L T D with
      | true =>
        rw [hs] at es
        rw [List.filter_cons_of_neg (by rw [hs]; decide), List.filter_nil, List.append_nil] at this
        simp only [es, Bool.not_true, Bool.false_eq_true, if_false]
        exact this
      | false =>
        rw [hs] at es
        rw [List.filter_cons_of_pos (by rw [hs]; decide), List.filter_nil] at this
        simp only [es, Bool.not_false, if_true]
        rw [rdP, en]
        exact this
  have := one l.length 0 (by omega)
  rw [List.take_zero, List.filter_nil] at this
  exact this
theorem impl_ref {ws : List Int} (hws : (ws.length : Int) = p) : Ev (fun k => impl_RefineAt.j2 k p ws i false rL rT rD l L T D) (refR p rL rT rD L ws l i) := by
  obtain ⟨a, b, c⟩ := samL_iff.1 hx
  obtain ⟨hrb, hlen, hg⟩ := measB_parts h
  obtain ⟨hp, _, _⟩ := ball_parts hrb
  have hp7 := prime_hi hp
  have hp2 := prime_lo hp
  have hxb := (meas_own h hi).1
  refine Ev.up ?_
  simp only [impl_RefineAt.j2, Bool.false_eq_true, if_false]
  have hs := impl_some_ev hxb ws.length hws
  rw [a, b, c] at hs
  refine Ev.bind hs ?_
  unfold refR
  have bad : ∀ y, Ev (fun k => impl_RefineAt.j3 k p ws i y true rL rT rD l) (0, 0, 0, [], 3) := fun y => by
    refine Ev.up ?_
    simp only [impl_RefineAt.j3, if_true]
    exact Ev.now _
  by_cases h6 : L = 6
  · simp only [if_pos h6, Bool.false_eq_true, if_false]; exact bad _
  simp only [if_neg h6, if_true]
  have hql : (refQ p ws l i).length = l.length - 1 + ws.length := by
    unfold refQ
    rw [List.length_append, List.length_append, List.length_take, List.length_drop, newL_len]
    omega
  have hcl : ((List.range ws.length).map (chP p (l.getD i z72))).length = ws.length := by simp
  rw [hcl, wid (n := (l.length : Int) - 1) (by omega) (by omega), wid (n := (l.length : Int) - 1 + (ws.length : Int)) (by omega) (by omega)]
  by_cases h64 : 64 < (refQ p ws l i).length
  · rw [if_pos h64, decide_eq_true (by omega)]; exact bad _
  rw [if_neg h64, decide_eq_false (by omega)]
  refine Ev.up ?_
  simp only [impl_RefineAt.j3, Bool.false_eq_true, if_false]
  refine Ev.bindv (a := l) (by unfold slices_Clone_impl_Piece.f; rw [if_pos ⟨by omega, by omega⟩]) ?_
  rw [wid (n := (i : Int) + 1) (by omega) (by omega)]
  refine Ev.bindv (a := l.take i ++ l.drop (i + 1)) (by
    unfold slices_Delete_impl_Piece.f
    rw [if_pos ⟨by omega, by omega, by omega⟩]
    rw [show ((i : Int) + 1).toNat = i + 1 by omega, Int.toNat_natCast]) ?_
  have two : ∀ (d j : Nat), j + d = ws.length → Ev (fun k => impl_RefineAt.l1 k p ws (l.take i ++ l.drop (i + 1) ++ (newL p ws (l.getD i z72)).take j) ((List.range ws.length).map (chP p (l.getD i z72))) ws.length j rL rT rD l) (rL, rT, rD, sortW p (refQ p ws l i), 0) := by
    intro d
    induction d with
    | zero =>
      intro j hj
      obtain rfl : j = ws.length := by omega
      refine Ev.up ?_
      simp only [impl_RefineAt.l1, if_neg (show ¬ (ws.length : Int) < (ws.length : Int) by omega)]
      rw [show (newL p ws (l.getD i z72)).take ws.length = newL p ws (l.getD i z72) from List.take_of_length_le (by rw [newL_len]; exact Nat.le_refl _)]
      exact Ev.bind (impl_sorted_ev (l := refQ p ws l i) (by omega) (by omega) (ref_ball h hi hx h6) (ref_nodup h hi hx hws h6)) (Ev.now _)
    | succ d ih =>
      intro j hj
      have hjl : j < ws.length := by omega
      refine Ev.up ?_
      simp only [impl_RefineAt.l1, hcl]
      have hsz : (l.take i ++ l.drop (i + 1) ++ (newL p ws (l.getD i z72)).take j).length < 4398046511104 := by
        rw [List.length_append, List.length_append, List.length_take, List.length_drop, List.length_take, newL_len]; omega
      simp only [if_pos (show (j : Int) < (ws.length : Int) by omega), if_pos (show (0 : Int) ≤ (j : Int) by omega), if_pos hsz, chP_get hjl]
      rw [wid (n := (j : Int) + 1) (by omega) (by omega)]
      have := ih (j + 1) (by omega)
      rw [newL_take p ws _ j hjl, ← List.append_assoc] at this
      exact this
  have := two ws.length 0 (by omega)
  rw [List.take_zero, List.append_nil] at this
  rw [hcl]
  exact this
end
theorem refR_len (p rL rT rD L : Int) (ws : List Int) (l : List S72) (i : Nat) : (refR p rL rT rD L ws l i).2.2.2.1.length ≤ 64 := by
  unfold refR
  by_cases h6 : L = 6
  · rw [if_pos h6]; exact Nat.zero_le _
  · rw [if_neg h6]
    split
    · exact Nat.zero_le _
    · show (sortW p _).length ≤ 64; rw [sortW_len]; omega
theorem refine_both (p rL rT rD : Int) (l : List S72) (L T D : Int) (ws : List Int) (hl : l.length ≤ 1048576) (hwl : ws.length ≤ 1048576) : ∃ r : Int × Int × Int × List S72 × Int, r.2.2.2.1.length ≤ 64 ∧ Ev (fun k => impl_RefineAt.f k p rL rT rD l L T D ws) r ∧ Ev (fun k => spec_RefineAt.f k p rL rT rD l L T D ws) r := by
  have hs := spec_l08Code_ev p rL rT rD l L T D (by omega)
  have hi := impl_measureCode_ev p rL rT rD l L T D (by omega)
  have stop : ∀ (c s : Int) (n : Nat), c ≠ 0 → Ev (fun k => spec_RefineAt.l0 k p ws c s n rL rT rD l L T D) (0, 0, 0, [], c) := fun c s n hc => by
    refine Ev.up ?_
    simp only [spec_RefineAt.l0, show (c == 0) = false from beq_eq_false_iff_ne.2 hc, ite_self]
    refine Ev.up ?_
    simp only [spec_RefineAt.j3, Bool.false_eq_true, if_false, if_neg hc]
    exact Ev.now _
  have stop1 : ∀ c : Int, c ≠ 0 → Ev (fun k => spec_RefineAt.j1 k p ws c rL rT rD l L T D) (0, 0, 0, [], c) := fun c hc => by
    refine Ev.up ?_
    simp only [spec_RefineAt.j1]
    exact stop c 0 0 hc
  have no2 : Ev (fun k => impl_RefineAt.j0 k p ws true rL rT rD l L T D) (0, 0, 0, [], 2) := by
    refine Ev.up ?_
    simp only [impl_RefineAt.j0, if_true]
    exact Ev.now _
  have code3 : mcode p rL rT rD l L T D = 0 ∨ mcode p rL rT rD l L T D = 1 ∨ mcode p rL rT rD l L T D = 2 := by
    unfold mcode
    split
    · split
      · exact .inl rfl
      · exact .inr (.inr rfl)
    · exact .inr (.inl rfl)
  unfold impl_RefineAt.f spec_RefineAt.f
  rcases code3 with h0 | h0 | h0
  · rw [h0] at hs hi
    obtain ⟨hm, hb, hr⟩ := mcode_zero h0
    obtain ⟨hrb, h2, h3⟩ := measB_parts hm
    have hp7 := prime_hi (ball_parts hrb).1
    have hg : ∀ j, j < l.length → pB p (l.getD j z72) = true := fun j hj => (gB_lv (h3 j hj)).2.2
    by_cases hpl : (ws.length : Int) = p
    · have hin := impl_within_ev 1000000 ws (by omega) (by omega) (by omega)
      cases hw : ws.all (fun w => decide (-1000000 ≤ w ∧ w ≤ 1000000)) with
      | false =>
        rw [hw] at hin
        refine ⟨(0, 0, 0, [], 2), Nat.zero_le _, Ev.bind hi ?_, Ev.bind hs ?_⟩
        · simp only [if_true, if_pos hpl]
          unfold impl_isWeight.f
          simp only [Option.bind_assoc]
          refine Ev.bind hin ?_
          simp only [Option.bind_some, Bool.not_false]
          exact no2
        · simp only [if_neg (show ¬ (0 : Int) = 1 by decide), show ((ws.length : Int) != p) = false from bne_eq_false_iff_eq.2 hpl]
          refine Ev.up ?_
          simp only [spec_RefineAt.j0, Bool.false_eq_true, if_false]
          refine Ev.up ?_
          simp only [spec_RefineAt.j1]
          have loop : ∀ (d n : Nat), n + d = ws.length → (ws.take n).all (fun w => decide (-1000000 ≤ w ∧ w ≤ 1000000)) = true → Ev (fun k => spec_RefineAt.l0 k p ws 0 (wsumN ws n) n rL rT rD l L T D) (0, 0, 0, [], 2) := by
            intro d
            induction d with
            | zero =>
              intro n hn ha
              rw [List.take_of_length_le (by omega), hw] at ha; cases ha
            | succ d ih =>
              intro n hn ha
              have hnl : n < ws.length := by omega
              refine Ev.up ?_
              simp only [spec_RefineAt.l0, if_pos (show (n : Int) < (ws.length : Int) by omega), beq_self_eq_true]
              refine Ev.up ?_
              simp only [spec_RefineAt.j3, if_true, if_pos (show (0 : Int) ≤ (n : Int) by omega), if_pos (show (n : Int) < (ws.length : Int) by omega)]
              refine Ev.bindv (In_eq _ _ _) ?_
              rw [wid (n := (n : Int) + 1) (by omega) (by omega)]
              cases hc : decide (-1000000 ≤ rd ws (n : Int) ∧ rd ws (n : Int) ≤ 1000000) with
              | true =>
                simp only [if_true]
                refine ih (n + 1) (by omega) ?_
                rw [List.take_succ_eq_append_getElem hnl, List.all_append, ha, Bool.true_and, List.all_cons, List.all_nil, Bool.and_true, ← rd_nat ws n hnl]
                exact hc
              | false =>
                simp only [Bool.false_eq_true, if_false]
                exact stop 2 _ (n + 1) (by decide)
          exact loop ws.length 0 (by omega) rfl
      | true =>
        rw [hw] at hin
        obtain ⟨g, hg1, hg2⟩ := pieceAt_ix rL rT rD l L T D
        have loopS : ∀ r, Ev (fun k => spec_RefineAt.j3 k p ws 0 (wsumN ws ws.length) ws.length false rL rT rD l L T D) r → Ev (fun k => spec_RefineAt.l0 k p ws 0 (wsumN ws 0) (0 : Nat) rL rT rD l L T D) r := by
          intro r hr
          have key : ∀ (d n : Nat), n + d = ws.length → Ev (fun k => spec_RefineAt.l0 k p ws 0 (wsumN ws n) n rL rT rD l L T D) r := by
            intro d
            induction d with
            | zero =>
              intro n hn
              obtain rfl : n = ws.length := by omega
              refine Ev.up ?_
              simp only [spec_RefineAt.l0, if_neg (show ¬ (ws.length : Int) < (ws.length : Int) by omega)]
              exact hr
            | succ d ih =>
              intro n hn
              have hnl : n < ws.length := by omega
              have hc : decide (-1000000 ≤ rd ws (n : Int) ∧ rd ws (n : Int) ≤ 1000000) = true := by
                have := List.all_eq_true.1 hw _ (List.getElem_mem hnl)
                rwa [← rd_nat ws n hnl] at this
              refine Ev.up ?_
              simp only [spec_RefineAt.l0, if_pos (show (n : Int) < (ws.length : Int) by omega), beq_self_eq_true]
              refine Ev.up ?_
              simp only [spec_RefineAt.j3, if_true, if_pos (show (0 : Int) ≤ (n : Int) by omega), if_pos (show (n : Int) < (ws.length : Int) by omega)]
              refine Ev.bindv (In_eq _ _ _) ?_
              rw [wid (n := (n : Int) + 1) (by omega) (by omega), hc]
              simp only [if_true]
              exact ih (n + 1) (by omega)
          exact key ws.length 0 (by omega)
        have loopI : ∀ r, Ev (fun k => if g < 0 then impl_RefineAt.j2 k p ws g true rL rT rD l L T D else (if 0 ≤ g then (if g < (l.length : Int) then impl_RefineAt.j2 k p ws g (((rd_T72 l g).f1) != wsumN ws ws.length) rL rT rD l L T D else none) else none)) r → Ev (fun k => impl_RefineAt.l0 k p ws g 0 ws ws.length 0 rL rT rD l L T D) r := by
          intro r hr
          have key : ∀ (d n : Nat), n + d = ws.length → Ev (fun k => impl_RefineAt.l0 k p ws g (wsumN ws n) ws ws.length n rL rT rD l L T D) r := by
            intro d
            induction d with
            | zero =>
              intro n hn
              obtain rfl : n = ws.length := by omega
              refine Ev.up ?_
              simp only [impl_RefineAt.l0, if_neg (show ¬ (ws.length : Int) < (ws.length : Int) by omega)]
              exact hr
            | succ d ih =>
              intro n hn
              refine Ev.up ?_
              simp only [impl_RefineAt.l0, if_pos (show (n : Int) < (ws.length : Int) by omega), if_pos (show (0 : Int) ≤ (n : Int) by omega)]
              rw [wid (n := (n : Int) + 1) (by omega) (by omega)]
              exact ih (n + 1) (by omega)
          exact key ws.length 0 (by omega)
        have five : Ev (fun k => impl_RefineAt.j2 k p ws g true rL rT rD l L T D) (0, 0, 0, [], 5) := by
          refine Ev.up ?_
          simp only [impl_RefineAt.j2, if_true]
          exact Ev.now _
        have fiveS : Ev (fun k => spec_RefineAt.j4 k p ws true rL rT rD l L T D) (0, 0, 0, [], 5) := by
          refine Ev.up ?_
          simp only [spec_RefineAt.j4, if_true]
          exact Ev.now _
        have goI : ∀ r, Ev (fun k => impl_RefineAt.l0 k p ws g 0 ws ws.length 0 rL rT rD l L T D) r → Ev (fun k => (impl_measureCode.f k p rL rT rD l L T D).bind fun t451 => (if t451 = 0 then (if (ws.length : Int) = p then ((impl_isWeight.f k ws).bind fun t452 => (impl_RefineAt.j0 k p ws (!t452) rL rT rD l L T D)) else (impl_RefineAt.j0 k p ws true rL rT rD l L T D)) else (some (0, 0, 0, ([] : List S72), t451)))) r := fun r hr => by
          refine Ev.bind hi ?_
          simp only [if_true, if_pos hpl]
          unfold impl_isWeight.f
          simp only [Option.bind_assoc]
          refine Ev.bind hin ?_
          simp only [Option.bind_some, Bool.not_true]
          refine Ev.up ?_
          simp only [impl_RefineAt.j0, Bool.false_eq_true, if_false]
          exact Ev.bindv hg1 hr
        have goS : ∀ r, Ev (fun k => spec_RefineAt.j3 k p ws 0 (wsumN ws ws.length) ws.length false rL rT rD l L T D) r → Ev (fun k => (spec_l08Code.f k p rL rT rD l L T D).bind fun t312 => (if t312 = 1 then (spec_RefineAt.j0 k p ws t312 false rL rT rD l L T D) else (spec_RefineAt.j0 k p ws t312 ((ws.length : Int) != p) rL rT rD l L T D))) r := fun r hr => by
          refine Ev.bind hs ?_
          simp only [if_neg (show ¬ (0 : Int) = 1 by decide), show ((ws.length : Int) != p) = false from bne_eq_false_iff_eq.2 hpl]
          refine Ev.up ?_
          simp only [spec_RefineAt.j0, Bool.false_eq_true, if_false]
          refine Ev.up ?_
          simp only [spec_RefineAt.j1]
          exact loopS r hr
        have hwi := spec_within_ev (rL := rL) (rT := rT) (rD := rD) h2.2 hb hg
        rcases hg2 with ⟨rfl, hno⟩ | ⟨i, hil, rfl, hsam⟩
        · refine ⟨(0, 0, 0, [], 5), Nat.zero_le _, goI _ (loopI _ ?_), goS _ ?_⟩
          · simp only [if_pos (show (-1 : Int) < 0 by decide)]; exact five
          · refine Ev.up ?_
            simp only [spec_RefineAt.j3, Bool.false_eq_true, if_false, if_true]
            refine Ev.bind hwi ?_
            simp only [withL_none hno, Bool.false_eq_true, if_false]
            exact fiveS
        · have hsum := ref_sum hm hil hsam
          have hrun : ∀ r, Ev (fun k => spec_RefineAt.j4 k p ws (wsumN ws ws.length != (l.getD i z72).f1) rL rT rD l L T D) r → Ev (fun k => spec_RefineAt.j3 k p ws 0 (wsumN ws ws.length) ws.length false rL rT rD l L T D) r := fun r hr => by
            refine Ev.up ?_
            simp only [spec_RefineAt.j3, Bool.false_eq_true, if_false, if_true]
            refine Ev.bind hwi ?_
            simp only [ref_same hm hil hsam, if_true]
            have hwt := spec_weight_ev (rL := rL) (rT := rT) (rD := rD) h2.2 hb hg
            rw [hsum] at hwt
            exact Ev.bind hwt hr
          by_cases he : (l.getD i z72).f1 = wsumN ws ws.length
          · refine ⟨refR p rL rT rD L ws l i, refR_len _ _ _ _ _ _ _ _, goI _ (loopI _ ?_), goS _ (hrun _ ?_)⟩
            · simp only [if_neg (show ¬ (i : Int) < 0 by omega), if_pos (show (0 : Int) ≤ (i : Int) by omega), if_pos (show (i : Int) < (l.length : Int) by omega)]
              rw [rdP, he, bne_self_eq_false]
              exact impl_ref hm hil hsam hpl
            · rw [he, bne_self_eq_false]
              exact spec_ref hm hil hsam hpl hw
          · refine ⟨(0, 0, 0, [], 5), Nat.zero_le _, goI _ (loopI _ ?_), goS _ (hrun _ ?_)⟩
            · simp only [if_neg (show ¬ (i : Int) < 0 by omega), if_pos (show (0 : Int) ≤ (i : Int) by omega), if_pos (show (i : Int) < (l.length : Int) by omega)]
              rw [rdP, show ((l.getD i z72).f1 != wsumN ws ws.length) = true from bne_iff_ne.2 he]
              exact five
            · rw [show (wsumN ws ws.length != (l.getD i z72).f1) = true from bne_iff_ne.2 (fun e => he e.symm)]
              exact fiveS
    · refine ⟨(0, 0, 0, [], 2), Nat.zero_le _, Ev.bind hi ?_, Ev.bind hs ?_⟩
      · simp only [if_true, if_neg hpl]; exact no2
      · simp only [if_neg (show ¬ (0 : Int) = 1 by decide), show ((ws.length : Int) != p) = true from bne_iff_ne.2 hpl]
        refine Ev.up ?_
        simp only [spec_RefineAt.j0, if_true]
        exact stop1 2 (by decide)
  · rw [h0] at hs hi
    refine ⟨(0, 0, 0, [], 1), Nat.zero_le _, Ev.bind hi ?_, Ev.bind hs ?_⟩
    · simp only [if_neg (show ¬ (1 : Int) = 0 by decide)]; exact Ev.now _
    · simp only [if_true]
      refine Ev.up ?_
      simp only [spec_RefineAt.j0, Bool.false_eq_true, if_false]
      exact stop1 1 (by decide)
  · rw [h0] at hs hi
    refine ⟨(0, 0, 0, [], 2), Nat.zero_le _, Ev.bind hi ?_, Ev.bind hs ?_⟩
    · simp only [if_neg (show ¬ (2 : Int) = 0 by decide)]; exact Ev.now _
    · simp only [if_neg (show ¬ (2 : Int) = 1 by decide)]
      refine Ev.up ?_
      simp only [spec_RefineAt.j0]
      cases ((ws.length : Int) != p) with
      | true => simp only [if_true]; exact stop1 2 (by decide)
      | false => simp only [Bool.false_eq_true, if_false]; exact stop1 2 (by decide)

def convP (x : S103) : S72 := ⟨⟨x.f0.f0, x.f0.f1, x.f0.f2⟩, x.f1⟩
theorem laws_toBall_eq (a b c : Int) : laws_toBall.f a b c = some (a, b, c) := by simp [laws_toBall.f]
theorem laws_eqBall_eq (a b c : Int) : laws_eqBall.f a b c a b c = some true := by simp [laws_eqBall.f]
theorem laws_toPiece_eq (a b c d : Int) : laws_toPiece.f a b c d = some (a, b, c, d) := by simp only [laws_toPiece.f, laws_toBall_eq, Option.bind_some]
theorem laws_eqPiece_eq (a b c d : Int) : laws_eqPiece.f a b c d a b c d = some true := by simp only [laws_eqPiece.f, laws_eqBall_eq, Option.bind_some, if_true]
theorem laws_toPieceS_ev (l : List S103) (hl : l.length ≤ 8796093022208) : Ev (fun k => laws_toPieceS.f k l) (l.map convP) := by
  refine Ev.congr (f := fun k => laws_toPieceS.l0 k l (List.replicate l.length z72) 0) (fun k => ?_) ?_
  · unfold laws_toPieceS.f
    rw [if_pos (by omega), if_pos (by rw [Int.toNat_natCast]; exact hl), Int.toNat_natCast]
  · refine copy_ev' (fun k dst i => laws_toPieceS.l0 k l dst i) (l.map convP) ?_ ?_ _ (by simp)
    · intro dst i h r hd hr
      have hi : i < l.length := by simpa using h
      have hd' : dst.length = l.length := by simpa using hd
      have e : (l.map convP)[i] = convP l[i] := by simp
      rw [e] at hr
      have er : rd_T103 l (i : Int) = l[i] := by
        show l.getD i z103 = l[i]
        rw [List.getD_eq_getElem?_getD, List.getElem?_eq_getElem hi]; rfl
      refine Ev.step (f := fun k => laws_toPieceS.l0 k l (dst.set i (convP l[i])) ((i : Int) + 1)) (fun k => ?_) hr
      simp only [laws_toPieceS.l0, er, laws_toPiece_eq, Option.bind_some]
      simp only [if_pos (show (i : Int) < (l.length : Int) by omega), if_pos (show (0 : Int) ≤ (i : Int) by omega), if_pos (show (i : Int) < (dst.length : Int) by omega), Int.toNat_natCast, wid (n := (i : Int) + 1) (by omega) (by omega)]
      rfl
    · intro dst hd
      refine Ev.step (f := fun _ => some dst) (fun k => ?_) (Ev.now _)
      simp only [laws_toPieceS.l0]
      rw [if_neg (by simp)]
theorem laws_eqPieceS_ev (l : List S72) (hl : l.length ≤ 4611686018427387904) : Ev (fun k => laws_eqPieceS.f k l l) true := by
  have key : ∀ (d i : Nat), i + d = l.length → Ev (fun k => laws_eqPieceS.l0 k l l i) true := by
    intro d
    induction d with
    | zero => intro i hi; exact Ev.step (f := fun _ => some true) (fun k => by simp only [laws_eqPieceS.l0]; rw [if_neg (by omega)]) (Ev.now _)
    | succ d ih =>
      intro i hi
      refine Ev.step (f := fun k => laws_eqPieceS.l0 k l l ((i + 1 : Nat) : Int)) (fun k => ?_) (ih (i + 1) (by omega))
      simp only [laws_eqPieceS.l0, laws_eqPiece_eq, Option.bind_some, if_true]
      rw [if_pos (by omega), if_pos (by omega), if_pos (by omega), wid (n := (i : Int) + 1) (by omega) (by omega)]; rfl
  refine Ev.congr (f := fun k => laws_eqPieceS.l0 k l l 0) (fun k => ?_) (key l.length 0 (by omega))
  unfold laws_eqPieceS.f; rw [if_pos rfl]
theorem laws_toMeasure_ev (a b c : Int) (l : List S103) (hl : l.length ≤ 8796093022208) : Ev (fun k => laws_toMeasure.f k a b c l) (a, b, c, l.map convP) := by
  unfold laws_toMeasure.f
  refine Ev.bindv (laws_toBall_eq a b c) (Ev.bind (laws_toPieceS_ev l hl) (Ev.now _))
theorem laws_eqMeasure_ev (a b c : Int) (l : List S72) (hl : l.length ≤ 4611686018427387904) : Ev (fun k => laws_eqMeasure.f k a b c l a b c l) true := by
  unfold laws_eqMeasure.f
  refine Ev.bindv (laws_eqBall_eq a b c) ?_
  simp only [if_true]
  refine Ev.bind (laws_eqPieceS_ev l hl) ?_
  simp only [if_true]
  exact Ev.now _
theorem szP (n : Nat) (hn : n ≤ maxLen) : wrap64 (1048576 - (n : Int)) = 1048576 - (n : Int) := by
  have : maxLen = 9223372036854775807 := rfl
  exact wid (by omega) (by omega)
theorem laws_szMeasure_eq (a b c : Int) (l : List S103) (hl : l.length ≤ maxLen) : laws_szMeasure.f a b c l 1048576 = some (if 1048576 - (l.length : Int) < 0 then -1 else 1048576 - (l.length : Int)) := by
  unfold laws_szMeasure.f laws_szPieceS.f
  rw [szP l.length hl]
  by_cases h : 1048576 - (l.length : Int) < 0
  · simp only [if_pos h, Option.bind_some, if_pos (show (-1 : Int) < 0 by decide)]
  · simp only [if_neg h, Option.bind_some]

theorem rdPi_set {x : List S72} {i : Nat} (h : i < x.length) (v : S72) : rd_T72 (x.set i v) (i : Int) = v := by
  show (x.set i v).getD i z72 = v
  rw [List.getD_eq_getElem?_getD, List.getElem?_set_self h]; rfl
def mkP (j : Nat) : S72 := ⟨⟨1 + 4 * (j : Int), 1 + 4 * (j : Int) + 1, 1 + 4 * (j : Int) + 1 + 1⟩, 1 + 4 * (j : Int) + 1 + 1 + 1⟩
theorem getDP_set {x : List S72} {i j : Nat} (h : i < x.length) (v : S72) : (x.set i v).getD j z72 = if j = i then v else x.getD j z72 := by
  rw [List.getD_eq_getElem?_getD, List.getElem?_set]
  by_cases e : i = j
  · rw [if_pos e, if_pos e.symm, if_pos h]; rfl
  · rw [if_neg e, if_neg (fun h => e h.symm), List.getD_eq_getElem?_getD]
theorem markPieceS_at (l : List S72) (hl : l.length ≤ 1048576) (s : Int) (h0 : 0 ≤ s) (h1 : s ≤ 1073741824) : ∃ x, Ev (fun k => laws_markPieceS.f k l s) (s + 4 * (l.length : Int), x) := by
  have key : ∀ (d i : Nat) (x : List S72), i + d = l.length → x.length = l.length → ∃ x', Ev (fun k => laws_markPieceS.l0 k x (s + 4 * (i : Int)) i) (s + 4 * (l.length : Int), x') := by
    intro d
    induction d with
    | zero =>
      intro i x hi hx
      obtain rfl : i = l.length := by omega
      refine ⟨x, Ev.up ?_⟩
      simp only [laws_markPieceS.l0, if_neg (show ¬ (l.length : Int) < (x.length : Int) by omega)]
      exact Ev.now _
    | succ d ih =>
      intro i x hi hx
      have hix : i < x.length := by omega
      obtain ⟨x', h'⟩ := ih (i + 1) (x.set i ⟨⟨s + 4 * (i : Int), s + 4 * (i : Int) + 1, s + 4 * (i : Int) + 1 + 1⟩, s + 4 * (i : Int) + 1 + 1 + 1⟩) (by omega) (by rw [List.length_set]; exact hx)
      refine ⟨x', Ev.up ?_⟩
      simp only [laws_markPieceS.l0, if_pos (show (i : Int) < (x.length : Int) by omega), if_pos (show (0 : Int) ≤ (i : Int) by omega), Option.bind_some, Int.toNat_natCast]
      rw [wid (n := s + 4 * (i : Int) + 1) (by omega) (by omega), wid (n := s + 4 * (i : Int) + 1 + 1) (by omega) (by omega), wid (n := s + 4 * (i : Int) + 1 + 1 + 1) (by omega) (by omega), wid (n := s + 4 * (i : Int) + 1 + 1 + 1 + 1) (by omega) (by omega), wid (n := (i : Int) + 1) (by omega) (by omega)]
      simp only [rdPi_set hix, List.set_set]
      rw [show s + 4 * (i : Int) + 1 + 1 + 1 + 1 = s + 4 * ((i + 1 : Nat) : Int) by omega]
      exact h'
  obtain ⟨x, hx⟩ := key l.length 0 l (by omega) rfl
  refine ⟨x, ?_⟩
  unfold laws_markPieceS.f
  rw [show s + 4 * ((0 : Nat) : Int) = s by omega] at hx
  exact hx
theorem markMeasure_at (a b c : Int) (l : List S72) (hl : l.length ≤ 1048576) (s : Int) (h0 : 0 ≤ s) (h1 : s ≤ 1073741824) : ∃ x, Ev (fun k => laws_markMeasure.f k a b c l s) (s + 4 * (l.length : Int), x) := by
  obtain ⟨x, h⟩ := markPieceS_at l hl s h0 h1
  unfold laws_markMeasure.f
  exact ⟨x, Ev.bind h (Ev.now _)⟩
theorem markMeasure_held (a b c : Int) (l : List S72) (hl : l.length ≤ 1048576) : ∃ x, Ev (fun k => laws_markMeasure.f k a b c l 1) (1 + 4 * (l.length : Int), x) ∧ ∀ a' b' c', Ev (fun k => laws_heldMeasure.f k a' b' c' x 1) (1 + 4 * (l.length : Int)) := by
  have key : ∀ (d i : Nat) (x : List S72), i + d = l.length → x.length = l.length → (∀ j, j < i → x.getD j z72 = mkP j) → ∃ x', (x'.length = l.length ∧ ∀ j, j < l.length → x'.getD j z72 = mkP j) ∧ Ev (fun k => laws_markPieceS.l0 k x (1 + 4 * (i : Int)) i) (1 + 4 * (l.length : Int), x') := by
    intro d
    induction d with
    | zero =>
      intro i x hi hx hj
      obtain rfl : i = l.length := by omega
      refine ⟨x, ⟨hx, hj⟩, Ev.up ?_⟩
      simp only [laws_markPieceS.l0, if_neg (show ¬ (l.length : Int) < (x.length : Int) by omega)]
      exact Ev.now _
    | succ d ih =>
      intro i x hi hx hj
      have hix : i < x.length := by omega
      obtain ⟨x', q', h'⟩ := ih (i + 1) (x.set i (mkP i)) (by omega) (by rw [List.length_set]; exact hx) (fun j hj2 => by
        rw [getDP_set hix]
        by_cases e : j = i
        · rw [if_pos e, e]
        · rw [if_neg e]; exact hj j (by omega))
      refine ⟨x', q', Ev.up ?_⟩
      simp only [laws_markPieceS.l0, if_pos (show (i : Int) < (x.length : Int) by omega), if_pos (show (0 : Int) ≤ (i : Int) by omega), Option.bind_some, Int.toNat_natCast]
      rw [wid (n := 1 + 4 * (i : Int) + 1) (by omega) (by omega), wid (n := 1 + 4 * (i : Int) + 1 + 1) (by omega) (by omega), wid (n := 1 + 4 * (i : Int) + 1 + 1 + 1) (by omega) (by omega), wid (n := 1 + 4 * (i : Int) + 1 + 1 + 1 + 1) (by omega) (by omega), wid (n := (i : Int) + 1) (by omega) (by omega)]
      simp only [rdPi_set hix, List.set_set]
      rw [show 1 + 4 * (i : Int) + 1 + 1 + 1 + 1 = 1 + 4 * ((i + 1 : Nat) : Int) by omega]
      exact h'
  obtain ⟨x, ⟨x1, x2⟩, hx⟩ := key l.length 0 l (by omega) rfl (fun j hj => absurd hj (by omega))
  have held : ∀ (d i : Nat), i + d = x.length → Ev (fun k => laws_heldPieceS.l0 k x (1 + 4 * (i : Int)) i) (1 + 4 * (x.length : Int)) := by
    intro d
    induction d with
    | zero =>
      intro i hi
      obtain rfl : i = x.length := by omega
      refine Ev.up ?_
      simp only [laws_heldPieceS.l0, if_neg (show ¬ (x.length : Int) < (x.length : Int) by omega)]
      exact Ev.now _
    | succ d ih =>
      intro i hi
      have e : rd_T72 x (i : Int) = mkP i := x2 i (by omega)
      refine Ev.up ?_
      simp only [laws_heldPieceS.l0, if_pos (show (i : Int) < (x.length : Int) by omega), if_pos (show (0 : Int) ≤ (i : Int) by omega), e]
      rw [wid (n := 1 + 4 * (i : Int) + 1) (by omega) (by omega), wid (n := 1 + 4 * (i : Int) + 1 + 1) (by omega) (by omega), wid (n := 1 + 4 * (i : Int) + 1 + 1 + 1) (by omega) (by omega), wid (n := 1 + 4 * (i : Int) + 1 + 1 + 1 + 1) (by omega) (by omega), wid (n := (i : Int) + 1) (by omega) (by omega)]
      unfold mkP
      simp only [if_true]
      rw [show 1 + 4 * (i : Int) + 1 + 1 + 1 + 1 = 1 + 4 * ((i + 1 : Nat) : Int) by omega]
      exact ih (i + 1) (by omega)
  refine ⟨x, ?_, fun a' b' c' => ?_⟩
  · unfold laws_markMeasure.f
    exact Ev.bind hx (Ev.now _)
  · unfold laws_heldMeasure.f
    refine Ev.bind (held x.length 0 (by omega)) ?_
    rw [x1]
    simp only [if_neg (show ¬ 1 + 4 * (l.length : Int) < 0 by omega)]
    exact Ev.now _

theorem laws_toInt64S_ev (l : List Int) (hl : l.length ≤ 35184372088832) : Ev (fun k => laws_toInt64S.f k l) l := by
  refine Ev.congr (f := fun k => laws_toInt64S.l0 k l (List.replicate l.length 0) 0) (fun k => ?_) ?_
  · unfold laws_toInt64S.f
    rw [if_pos (by omega), if_pos (by rw [Int.toNat_natCast]; exact hl), Int.toNat_natCast]
  · refine copy_ev (fun k dst i => laws_toInt64S.l0 k l dst i) l (fun i => rd l i) ?_ ?_ (fun i h => rd_nat l i h) _ (by simp)
    · intro k dst i hi hd
      simp only [laws_toInt64S.l0]
      rw [if_pos (by omega), if_pos (by omega), if_pos (by omega), Int.toNat_natCast, wid (by omega) (by omega)]
    · intro k dst i hi hd
      simp only [laws_toInt64S.l0]
      rw [if_neg (by omega)]
theorem laws_eqInt64S_ev (l : List Int) (hl : l.length ≤ 35184372088832) : Ev (fun k => laws_eqInt64S.f k l l) true := by
  have key : ∀ (d i : Nat), i + d = l.length → Ev (fun k => laws_eqInt64S.l0 k l l i) true := by
    intro d
    induction d with
    | zero => intro i hi; exact Ev.step (f := fun _ => some true) (fun k => by simp only [laws_eqInt64S.l0]; rw [if_neg (by omega)]) (Ev.now _)
    | succ d ih =>
      intro i hi
      refine Ev.step (f := fun k => laws_eqInt64S.l0 k l l ((i + 1 : Nat) : Int)) (fun k => ?_) (ih (i + 1) (by omega))
      simp only [laws_eqInt64S.l0]
      rw [if_pos (by omega), if_pos (by omega), if_pos (by omega), if_pos trivial, wid (by omega) (by omega)]; rfl
  refine Ev.congr (f := fun k => laws_eqInt64S.l0 k l l 0) (fun k => ?_) (key l.length 0 (by omega))
  unfold laws_eqInt64S.f; rw [if_pos rfl]

theorem markInt64S_ev (l : List Int) (hl : l.length ≤ 1048576) (s : Int) (h0 : 0 ≤ s) (h1 : s ≤ 1073741824) : ∃ x, Ev (fun k => laws_markInt64S.f k l s) (s + (l.length : Int), x) := by
  unfold laws_markInt64S.f
  have key : ∀ (d i : Nat) (l' : List Int), i + d = l.length → l'.length = l.length → ∃ x, Ev (fun k => laws_markInt64S.l0 k l' (s + (i : Int)) (i : Int)) (s + (l.length : Int), x) := by
    intro d
    induction d with
    | zero =>
      intro i l' hi hl'
      obtain rfl : i = l.length := by omega
      refine ⟨l', Ev.up ?_⟩
      simp only [laws_markInt64S.l0, if_neg (show ¬ (l.length : Int) < (l'.length : Int) by omega)]
      exact Ev.now _
    | succ d ih =>
      intro i l' hi hl'
      obtain ⟨x, hx⟩ := ih (i + 1) (l'.set i (s + (i : Int))) (by omega) (by rw [List.length_set]; exact hl')
      refine ⟨x, Ev.up ?_⟩
      simp only [laws_markInt64S.l0, if_pos (show (i : Int) < (l'.length : Int) by omega), if_pos (show (0 : Int) ≤ (i : Int) by omega), Int.toNat_natCast]
      rw [wid (n := s + (i : Int) + 1) (by omega) (by omega), wid (n := (i : Int) + 1) (by omega) (by omega), show s + (i : Int) + 1 = s + ((i + 1 : Nat) : Int) by omega]
      exact hx
  have := key l.length 0 l (by omega) rfl
  simpa using this

theorem FnExactRefineAt : laws_FnExactRefineAt.Pure := by
  intro p a b c l u0 v0 w0 ws _ _ _ _ hmax _ _ _ _ hwmax _
  refine Ev.rounds ?_
  unfold laws_FnExactRefineAt.f
  by_cases hbw : (ws.length : Int) > 1048576
  · simp only [if_pos hbw]; exact Ev.now _
  simp only [if_neg hbw]
  refine Ev.bindv (laws_szMeasure_eq a b c l hmax) ?_
  by_cases hbig : 1048576 - (l.length : Int) < 0
  · simp only [if_pos hbig, if_pos (show (-1 : Int) < 0 by decide)]; exact Ev.now _
  simp only [if_neg hbig]
  have hto := laws_toMeasure_ev a b c l (by omega)
  have htw := laws_toInt64S_ev ws (by omega)
  have hlen : (l.map convP).length = l.length := by simp
  obtain ⟨R, hrl, hi, hs⟩ := refine_both p a b c (l.map convP) u0 v0 w0 ws (by omega) (by omega)
  obtain ⟨u, v, w, q, code⟩ := R
  have hq : q.length ≤ 64 := hrl
  have heq := laws_eqMeasure_ev u v w q (by omega)
  obtain ⟨x1, hx1⟩ := markMeasure_at a b c (l.map convP) (by omega) 1 (by omega) (by omega)
  obtain ⟨x2, hx2⟩ := markInt64S_ev ws (by omega) (1 + 4 * ((l.map convP).length : Int)) (by omega) (by omega)
  obtain ⟨x3, hx3, hheld⟩ := markMeasure_held u v w q (by omega)
  refine Ev.bind hto (Ev.bindv (laws_toBall_eq u0 v0 w0) (Ev.bind htw (Ev.bind hs (Ev.bind hto (Ev.bind htw (Ev.bindv (laws_toBall_eq u0 v0 w0) (Ev.bind hi (Ev.bind heq ?_))))))))
  simp only [if_true]
  refine Ev.bind hto (Ev.bind (laws_eqMeasure_ev _ _ _ _ (by omega)) ?_)
  simp only [if_true]
  refine Ev.bind htw (Ev.bind (laws_eqInt64S_ev ws (by omega)) ?_)
  simp only [if_true]
  refine Ev.bind hx1 (Ev.bind hx2 ?_)
  simp only [if_neg (show ¬ 1 + 4 * ((l.map convP).length : Int) + (ws.length : Int) < 0 by omega)]
  refine Ev.bind heq ?_
  simp only [if_true]
  refine Ev.bind hx3 (Ev.bind (hheld u v w) ?_)
  simp only [if_neg (show ¬ 1 + 4 * (q.length : Int) < 0 by omega), if_true]
  refine Ev.bind hto (Ev.bindv (laws_toBall_eq u0 v0 w0) (Ev.bind htw (Ev.bind hi (Ev.bind heq ?_))))
  simp only [if_true]
  refine Ev.bind (hheld u v w) ?_
  simp only [if_neg (show ¬ 1 + 4 * (q.length : Int) < 0 by omega), if_true]
  exact Ev.now _

end Go.Proofs.Ytdfcoebadjhjlaa.Pure
