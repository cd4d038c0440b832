/- For every list of bytes, what FnSteps draws of it meets the law: words lead alike in the program and in the reference, normal words lead to the same ball, way words are as long as the distance, and steps are led back; no condition beyond the row's. -/
import Derived.Test.YtgoeelhiffbjlaaQRx72
import Derived.Test.YtgoeelhiffbjlaaWSized
namespace Go.Proofs.Ytgoeelhiffbjlaa.PrintWords
open Go.ChangeShapes Go.WideShapes
/-- The name by which the printed row calls the word. -/
theorem sized_ints {H : Type} {enc : TypeId × Value → H} {P : Program} {W : World} {base : Nat} {spare : Nat → Bool} {held : Bool} {t e : TypeId} {k : IntKind} {a : Option Addr} {len cap : Nat} {d : DataW H} {ps : List MemPlace} {ts : List TypeId} {ds : List (DataW H)} {j : Nat}
    (hsz : (DataW.weightsEach P ts ds).all (· ≤ reachBytes) = true) (ht : ts[j]? = some t) (hd : ds[j]? = some d) (hu : P.underlying t = some (.slice e)) (he : P.underlying e = some (.int k)) (hc : P.cellsOf e = 1) {B : Nat} (hB : P.bytesOf e = B)
    (h : DataW.Trod enc P W base spare held t (.slice a len cap) d ps) : len * B ≤ 140737488351232 :=
  Go.Proofs.YtgoeelhiffbjlaaW.PrintWords.sized_ints hsz ht hd hu he hc hB h
end Go.Proofs.Ytgoeelhiffbjlaa.PrintWords
namespace Go.Proofs.Ytgoeelhiffbjlaa.Pure
open Go.RowKit Go.Proofs.Ytgoeelhiffbjlaa.QR Go.Proofs.YtgoeelhiffbjlaaW.PrintWords Go.Proofs.YtgoeelhiffbjlaaW.PrintLast
set_option linter.unusedVariables false
set_option linter.unusedSimpArgs false
set_option linter.unusedSectionVars false

theorem wid {n : Int} (h0 : -9223372036854775808 ≤ n) (h1 : n ≤ 9223372036854775807) : wrap64 n = n := by unfold wrap64; omega
theorem Ev.val {α : Type} {o : Option α} {r : α} (h : o = some r) : Ev (fun _ => o) r := ⟨0, fun _ _ => h⟩
theorem Ev.bindv {α β : Type} {o : Option α} {f : Nat → α → Option β} {a : α} {r : β} (h : o = some a) (k : Ev (fun n => f n a) r) : Ev (fun n => o.bind (f n)) r := by
  subst h; exact k

def powW (p : Int) : Nat → Int → Int
  | 0, acc => acc
  | n + 1, acc => powW p n (wrap64 (acc * p))

def primeB (p : Int) : Bool := p == 2 || (p == 3 || (p == 5 || p == 7))
theorem prime_cases {p : Int} (h : primeB p = true) : p = 2 ∨ p = 3 ∨ p = 5 ∨ p = 7 := by
  simpa [primeB] using h
theorem prime_lo {p : Int} (h : primeB p = true) : 2 ≤ p := by rcases prime_cases h with h | h | h | h <;> omega
theorem prime_hi {p : Int} (h : primeB p = true) : p ≤ 7 := by rcases prime_cases h with h | h | h | h <;> omega

theorem ipow_pos {p : Int} (hp : 1 ≤ p) (n : Nat) : (1 : Int) ≤ p ^ n := by
  have := Int.pow_pos (n := p) (m := n) (by omega)
  omega
theorem ipow_mono {p : Int} (hp : 1 ≤ p) {m n : Nat} (h : m ≤ n) : p ^ m ≤ p ^ n := by
  obtain ⟨d, rfl⟩ : ∃ d, n = m + d := ⟨n - m, by omega⟩
  rw [Int.pow_add]
  have h1 := ipow_pos hp m
  have h2 := ipow_pos hp d
  have := Int.mul_le_mul_of_nonneg_left h2 (show 0 ≤ p ^ m by omega)
  rwa [Int.mul_one] at this
theorem powW_fit (p : Int) (hp : 1 ≤ p) (n : Nat) : ∀ (acc : Int), 0 ≤ acc → acc * p ^ n ≤ 9223372036854775807 → powW p n acc = acc * p ^ n := by
  induction n with
  | zero => intro acc _ _; simp [powW]
  | succ n ih =>
    intro acc h0 h
    have hpn : (1 : Int) ≤ p ^ n := ipow_pos hp n
    have e : acc * p ^ (n + 1) = acc * p * p ^ n := by rw [Int.pow_succ, Int.mul_comm (p ^ n) p, ← Int.mul_assoc]
    have h1 : 0 ≤ acc * p := Int.mul_nonneg h0 (by omega)
    have h2 : acc * p ≤ acc * p * p ^ n := by
      have := Int.mul_le_mul_of_nonneg_left hpn h1
      rwa [Int.mul_one] at this
    simp only [powW]
    rw [wid (by omega) (by omega), ih _ h1 (by omega), e]
theorem pow_le_top {p : Int} (h : primeB p = true) (n : Nat) (hn : n ≤ 22) : p ^ n ≤ 9223372036854775807 := by
  have hp := prime_lo h
  have h1 : p ^ n ≤ p ^ 22 := ipow_mono (by omega) hn
  have h2 : p ^ 22 ≤ 9223372036854775807 := by
    rcases prime_cases h with rfl | rfl | rfl | rfl <;> decide
  omega
theorem powW_prime {p : Int} (h : primeB p = true) (n : Nat) (hn : n ≤ 22) : powW p n 1 = p ^ n := by
  have hp := prime_lo h
  rw [powW_fit p (by omega) n 1 (by omega) (by rw [Int.one_mul]; exact pow_le_top h n hn), Int.one_mul]

def ballB (p L T D : Int) : Bool :=
  primeB p && (decide (-6 ≤ L ∧ L ≤ 6) && (decide (0 ≤ D ∧ D ≤ 6) && (if L + D ≤ 0 then T == 0 && D == 0 else decide (0 ≤ T ∧ T < p ^ (L + D).toNat) && (D == 0 || !(Int.tmod T p == 0)))))

def valF (p : Int) : Nat → Int → Nat
  | 0, _ => 0
  | f + 1, n => if n % p = 0 then valF p f (n / p) + 1 else 0
def val (p n : Int) : Nat := valF p n.natAbs n
theorem valF_spec {p : Int} (hp : 2 ≤ p) (f : Nat) : ∀ n : Int, n ≠ 0 → n.natAbs ≤ f → ∃ u, n = p ^ (valF p f n) * u ∧ ¬ p ∣ u := by
  induction f with
  | zero => intro n h0 hf; omega
  | succ f ih =>
    intro n h0 hf
    unfold valF
    by_cases h : n % p = 0
    · rw [if_pos h]
      obtain ⟨q, hq⟩ := Int.dvd_of_emod_eq_zero h
      have hq0 : q ≠ 0 := by intro e; subst e; simp at hq; exact h0 hq
      have hdiv : n / p = q := by rw [hq]; exact Int.mul_ediv_cancel_left q (by omega)
      rw [hdiv]
      have hlt : q.natAbs ≤ f := by
        have : n.natAbs = p.natAbs * q.natAbs := by rw [hq, Int.natAbs_mul]
        have h2 : 2 * q.natAbs ≤ p.natAbs * q.natAbs := Nat.mul_le_mul_right _ (by omega)
        omega
      obtain ⟨u, hu, hn⟩ := ih q hq0 hlt
      refine ⟨u, ?_, hn⟩
      conv => lhs; rw [hq, hu]
      rw [Int.pow_succ', Int.mul_assoc]
    · rw [if_neg h]
      exact ⟨n, by simp, fun hd => h (Int.emod_eq_zero_of_dvd hd)⟩
theorem val_spec {p n : Int} (hp : 2 ≤ p) (h : n ≠ 0) : ∃ u, n = p ^ (val p n) * u ∧ ¬ p ∣ u := valF_spec hp _ n h (Nat.le_refl _)
theorem pow_unique {p u u' : Int} (hp : 2 ≤ p) (hu : ¬ p ∣ u) (hu' : ¬ p ∣ u') : ∀ (v v' : Nat), p ^ v * u = p ^ v' * u' → v = v' := by
  have key : ∀ (v d : Nat) (x x' : Int), ¬ p ∣ x → p ^ v * x = p ^ (v + (d + 1)) * x' → False := by
    intro v d x x' hx h
    rw [Int.pow_add, Int.mul_assoc] at h
    have h2 : x = p ^ (d + 1) * x' := Int.eq_of_mul_eq_mul_left (Int.pow_ne_zero (by omega)) h
    apply hx
    rw [h2, Int.pow_succ', Int.mul_assoc]
    exact Int.dvd_mul_right _ _
  intro v v' h
  rcases Nat.lt_trichotomy v v' with h1 | h1 | h1
  · obtain ⟨d, rfl⟩ : ∃ d, v' = v + (d + 1) := ⟨v' - v - 1, by omega⟩
    exact (key v d u u' hu h).elim
  · exact h1
  · obtain ⟨d, rfl⟩ : ∃ d, v = v' + (d + 1) := ⟨v - v' - 1, by omega⟩
    exact (key v' d u' u hu' h.symm).elim
theorem val_eq {p n u : Int} {v : Nat} (hp : 2 ≤ p) (h : n = p ^ v * u) (hu : ¬ p ∣ u) : val p n = v := by
  have hn : n ≠ 0 := by
    intro e; rw [e] at h
    rcases Int.mul_eq_zero.1 h.symm with h | h
    · exact Int.pow_ne_zero (by omega) h
    · exact hu (by rw [h]; exact Int.dvd_zero p)
  obtain ⟨u', h', hu'⟩ := val_spec hp hn
  exact pow_unique hp hu' hu _ _ (h'.symm.trans h)
theorem val_pow_mul {p e : Int} (j : Nat) (hp : 2 ≤ p) (he : e ≠ 0) : val p (p ^ j * e) = j + val p e := by
  obtain ⟨u, h, hu⟩ := val_spec hp he
  refine val_eq hp (u := u) ?_ hu
  conv => lhs; rw [h]
  rw [Int.pow_add, Int.mul_assoc]
theorem val_dvd {p n : Int} (hp : 2 ≤ p) (h : n ≠ 0) (j : Nat) : p ^ j ∣ n ↔ j ≤ val p n := by
  obtain ⟨u, hu, hn⟩ := val_spec hp h
  constructor
  · rintro ⟨q, hq⟩
    rcases Nat.lt_or_ge (val p n) j with h1 | h1
    · exfalso
      obtain ⟨d, hd⟩ : ∃ d, j = val p n + (d + 1) := ⟨j - val p n - 1, by omega⟩
      have h2 : p ^ (val p n) * u = p ^ (val p n) * (p ^ (d + 1) * q) := by
        have e : n = p ^ (val p n) * (p ^ (d + 1) * q) := by rw [← Int.mul_assoc, ← Int.pow_add, ← hd]; exact hq
        exact hu.symm.trans e
      have h3 := Int.eq_of_mul_eq_mul_left (Int.pow_ne_zero (by omega)) h2
      apply hn
      rw [h3, Int.pow_succ', Int.mul_assoc]
      exact Int.dvd_mul_right _ _
    · exact h1
  · intro h1
    obtain ⟨d, hd⟩ : ∃ d, val p n = j + d := ⟨val p n - j, by omega⟩
    refine ⟨p ^ d * u, ?_⟩
    conv => lhs; rw [hu, hd, Int.pow_add, Int.mul_assoc]
theorem val_le_of_lt {p n : Int} (hp : 2 ≤ p) (h : n ≠ 0) (j : Nat) (hlt : n.natAbs < 2 ^ j) : val p n < j := by
  rcases Nat.lt_or_ge (val p n) j with h1 | h1
  · exact h1
  · exfalso
    obtain ⟨q, hq⟩ := (val_dvd hp h j).2 h1
    have hq0 : q ≠ 0 := by intro e; subst e; simp at hq; exact h hq
    have : n.natAbs = p.natAbs ^ j * q.natAbs := by rw [hq, Int.natAbs_mul, Int.natAbs_pow]
    have h2 : 2 ^ j ≤ p.natAbs ^ j := Nat.pow_le_pow_left (by omega) j
    have h3 : p.natAbs ^ j * 1 ≤ p.natAbs ^ j * q.natAbs := Nat.mul_le_mul_left _ (by omega)
    omega
theorem tdiv_bdv {x M : Int} (g : Int) (hx : -M ≤ x ∧ x ≤ M) : -M ≤ Int.tdiv x g ∧ Int.tdiv x g ≤ M := by
  have := Int.natAbs_tdiv_le_natAbs x g
  omega

theorem pow_13 {p : Int} (hp : primeB p = true) (n : Nat) (h : n ≤ 12) : p ^ n ≤ 13841287201 := by
  have hp2 := prime_lo hp
  have h1 : p ^ n ≤ p ^ 12 := ipow_mono (by omega) h
  have h2 : p ^ 12 ≤ 13841287201 := by rcases prime_cases hp with rfl | rfl | rfl | rfl <;> decide
  omega
def markOf (p T D : Int) : Int := T * p ^ (6 - D).toNat
def ofM (p L X : Int) : Int × Int × Int :=
  let x := X % p ^ (L + 6).toNat
  let dn : Int := if x = 0 then 0 else if (val p x : Int) < 6 then 6 - val p x else 0
  (L, x / p ^ (6 - dn).toNat, dn)
theorem ofM_of {p L X T D : Int} (hp : 2 ≤ p) (hx : X % p ^ (L + 6).toNat = T * p ^ (6 - D).toNat) (hD : 0 ≤ D ∧ D ≤ 6) (hu : D = 0 ∨ ¬ p ∣ T) : ofM p L X = (L, T, D) := by
  unfold ofM
  simp only [hx]
  have hpow : ∀ j : Nat, p ^ j ≠ 0 := fun j => Int.pow_ne_zero (by omega)
  by_cases h0 : T * p ^ (6 - D).toNat = 0
  · have hT : T = 0 := by
      rcases Int.mul_eq_zero.1 h0 with h | h
      · exact h
      · exact absurd h (hpow _)
    have hD0 : D = 0 := by
      rcases hu with h | h
      · exact h
      · exact absurd (by rw [hT]; exact Int.dvd_zero p) h
    subst hT; subst hD0
    simp
  · rw [if_neg h0]
    have hT : T ≠ 0 := by intro e; rw [e] at h0; simp at h0
    have hv : val p (T * p ^ (6 - D).toNat) = (6 - D).toNat + val p T := by rw [Int.mul_comm]; exact val_pow_mul _ hp hT
    have hdn : (if ((val p (T * p ^ (6 - D).toNat) : Nat) : Int) < 6 then 6 - ((val p (T * p ^ (6 - D).toNat) : Nat) : Int) else 0) = D := by
      rw [hv]
      rcases hu with h | h
      · rw [if_neg (by omega)]; exact h.symm
      · have : val p T = 0 := val_eq hp (u := T) (by simp) h
        rw [this]
        by_cases hd : D = 0
        · rw [if_neg (by omega)]; exact hd.symm
        · rw [if_pos (by omega)]; omega
    rw [hdn, Int.mul_ediv_cancel _ (hpow _)]
theorem ofM_mod (p L X : Int) : ofM p L (X % p ^ (L + 6).toNat) = ofM p L X := by unfold ofM; simp only [Int.emod_emod]
theorem ofM_back {p L X : Int} (hp : 2 ≤ p) : (ofM p L X).2.1 * p ^ (6 - (ofM p L X).2.2).toNat = X % p ^ (L + 6).toNat ∧ (0 ≤ (ofM p L X).2.2 ∧ (ofM p L X).2.2 ≤ 6) ∧ ((ofM p L X).2.2 = 0 ∨ ¬ p ∣ (ofM p L X).2.1) := by
  unfold ofM
  simp only
  generalize hx : X % p ^ (L + 6).toNat = x
  by_cases h0 : x = 0
  · rw [if_pos h0]; simp [h0]
  · rw [if_neg h0]
    obtain ⟨u, hu, hn⟩ := val_spec hp h0
    have hpow : ∀ j : Nat, p ^ j ≠ 0 := fun j => Int.pow_ne_zero (by omega)
    by_cases hv : ((val p x : Nat) : Int) < 6
    · rw [if_pos hv]
      have e : (6 - (6 - ((val p x : Nat) : Int))).toNat = val p x := by omega
      rw [e]
      have hq : x / p ^ val p x = u := by
        conv => lhs; lhs; rw [hu]
        exact Int.mul_ediv_cancel_left _ (hpow _)
      rw [hq]
      refine ⟨?_, by omega, .inr hn⟩
      rw [Int.mul_comm]; exact hu.symm
    · rw [if_neg hv]
      refine ⟨?_, by omega, .inl rfl⟩
      have hd : p ^ (6 - (0 : Int)).toNat ∣ x := (val_dvd hp h0 _).2 (by omega)
      exact Int.ediv_mul_cancel hd
theorem ofM_inj {p L X Y : Int} (hp : 2 ≤ p) : ofM p L X = ofM p L Y ↔ X % p ^ (L + 6).toNat = Y % p ^ (L + 6).toNat := by
  constructor
  · intro h
    rw [← (ofM_back (X := X) hp).1, ← (ofM_back (X := Y) hp).1, h]
  · intro h
    rw [← ofM_mod p L X, h, ofM_mod]
theorem ball_parts {p L T D : Int} (h : ballB p L T D = true) : primeB p = true ∧ (-6 ≤ L ∧ L ≤ 6) ∧ (0 ≤ D ∧ D ≤ 6) ∧ (L + D ≤ 0 → T = 0 ∧ D = 0) ∧ (0 < L + D → (0 ≤ T ∧ T < p ^ (L + D).toNat) ∧ (D = 0 ∨ ¬ p ∣ T)) := by
  unfold ballB at h
  simp only [Bool.and_eq_true, decide_eq_true_eq] at h
  obtain ⟨h1, h2, h3, h4⟩ := h
  refine ⟨h1, h2, h3, ?_, ?_⟩
  · intro hn; rw [if_pos hn] at h4; simpa using h4
  · intro hn
    rw [if_neg (by omega)] at h4
    simp only [Bool.and_eq_true, decide_eq_true_eq, Bool.or_eq_true, beq_iff_eq, Bool.not_eq_true', beq_eq_false_iff_ne] at h4
    refine ⟨h4.1, ?_⟩
    rcases h4.2 with h5 | h5
    · exact .inl h5
    · exact .inr (fun hd => h5 (Int.tmod_eq_zero_of_dvd hd))
theorem mark_lt {p L T D : Int} (h : ballB p L T D = true) : 0 ≤ markOf p T D ∧ markOf p T D < p ^ (L + 6).toNat := by
  obtain ⟨hp, hL, hD, h0, h1⟩ := ball_parts h
  have hp2 := prime_lo hp
  unfold markOf
  by_cases hn : L + D ≤ 0
  · rw [(h0 hn).1]
    have := ipow_pos (p := p) (by omega) (L + 6).toNat
    omega
  · obtain ⟨⟨a, b⟩, _⟩ := h1 (by omega)
    have hq := ipow_pos (p := p) (by omega) (6 - D).toNat
    refine ⟨Int.mul_nonneg a (by omega), ?_⟩
    have e : p ^ (L + 6).toNat = p ^ (L + D).toNat * p ^ (6 - D).toNat := by rw [← Int.pow_add]; congr 1; omega
    rw [e]
    exact Int.mul_lt_mul_of_pos_right b (by omega)
theorem mark_mod {p L T D : Int} (h : ballB p L T D = true) : markOf p T D % p ^ (L + 6).toNat = markOf p T D := Int.emod_eq_of_lt (mark_lt h).1 (mark_lt h).2
theorem ball_unit {p L T D : Int} (h : ballB p L T D = true) : D = 0 ∨ ¬ p ∣ T := by
  obtain ⟨_, _, _, h0, h1⟩ := ball_parts h
  by_cases hn : L + D ≤ 0
  · exact .inl (h0 hn).2
  · exact (h1 (by omega)).2
theorem ofM_mark {p L T D : Int} (h : ballB p L T D = true) : ofM p L (markOf p T D) = (L, T, D) :=
  ofM_of (prime_lo (ball_parts h).1) (mark_mod h) (ball_parts h).2.2.1 (ball_unit h)
theorem ofM_ball {p L X : Int} (hp : primeB p = true) (hL : -6 ≤ L ∧ L ≤ 6) : ballB p L (ofM p L X).2.1 (ofM p L X).2.2 = true := by
  have hp2 := prime_lo hp
  obtain ⟨hx, hD, hu⟩ := ofM_back (p := p) (L := L) (X := X) hp2
  have hpos := ipow_pos (p := p) (by omega) (L + 6).toNat
  have hx0 := Int.emod_nonneg X (show p ^ (L + 6).toNat ≠ 0 by omega)
  have hx1 := Int.emod_lt_of_pos X (show 0 < p ^ (L + 6).toNat by omega)
  generalize (ofM p L X).2.1 = T at *
  generalize (ofM p L X).2.2 = D at *
  have hq := ipow_pos (p := p) (by omega) (6 - D).toNat
  rw [← hx] at hx0 hx1
  have hT0 : 0 ≤ T := by
    rcases Int.lt_or_le T 0 with h | h
    · have := Int.mul_neg_of_neg_of_pos h (show 0 < p ^ (6 - D).toNat by omega); omega
    · exact h
  unfold ballB
  rw [hp, decide_eq_true hL, decide_eq_true hD, Bool.true_and, Bool.true_and, Bool.true_and]
  by_cases hn : L + D ≤ 0
  · rw [if_pos hn]
    have hT : T = 0 := by
      rcases Int.lt_or_eq_of_le hT0 with h | h
      · exfalso
        have e : p ^ (6 - D).toNat = p ^ (L + 6).toNat * p ^ (-(L + D)).toNat := by rw [← Int.pow_add]; congr 1; omega
        have h2 := ipow_pos (p := p) (by omega) (-(L + D)).toNat
        have h3 : p ^ (L + 6).toNat * 1 ≤ p ^ (L + 6).toNat * p ^ (-(L + D)).toNat := Int.mul_le_mul_of_nonneg_left (by omega) (by omega)
        have h4 : 1 * p ^ (6 - D).toNat ≤ T * p ^ (6 - D).toNat := Int.mul_le_mul_of_nonneg_right (by omega) (by omega)
        omega
      · exact h.symm
    have hD0 : D = 0 := by
      rcases hu with h | h
      · exact h
      · exact absurd (by rw [hT]; exact Int.dvd_zero p) h
    simp [hT, hD0]
  · rw [if_neg hn]
    have hlt : T < p ^ (L + D).toNat := by
      have e : p ^ (L + 6).toNat = p ^ (L + D).toNat * p ^ (6 - D).toNat := by rw [← Int.pow_add]; congr 1; omega
      rw [e] at hx1
      exact Int.lt_of_mul_lt_mul_right hx1 (by omega)
    rw [decide_eq_true (show 0 ≤ T ∧ T < p ^ (L + D).toNat from ⟨hT0, hlt⟩), Bool.true_and]
    rcases hu with h | h
    · simp [h]
    · have : (Int.tmod T p == 0) = false := beq_eq_false_iff_ne.2 (fun e => h (Int.dvd_of_tmod_eq_zero e))
      simp [this]
theorem ball_num {p L T D : Int} (h : ballB p L T D = true) : 0 ≤ T ∧ T ≤ 13841287201 := by
  obtain ⟨hp, hL, hD, h0, h1⟩ := ball_parts h
  have hp2 := prime_lo hp
  by_cases hn : L + D ≤ 0
  · rw [(h0 hn).1]; omega
  · have := (h1 (by omega)).1
    have := pow_13 hp (L + D).toNat (by omega)
    omega

theorem impl_power_l (p N : Int) (hN : N ≤ 9223372036854775807) (n : Nat) : ∀ (acc i : Int), 0 ≤ i → (i + n = N ∨ (n = 0 ∧ N ≤ i)) → Ev (fun k => impl_power.l0 k p acc N i) (powW p n acc) := by
  induction n with
  | zero =>
    intro acc i hi hx
    exact Ev.step (f := fun _ => some acc) (fun k => by simp only [impl_power.l0]; rw [if_neg (by omega)]) (Ev.now _)
  | succ n ih =>
    intro acc i hi hx
    exact Ev.step (f := fun k => impl_power.l0 k p (wrap64 (acc * p)) N (i + 1)) (fun k => by
      simp only [impl_power.l0]; rw [if_pos (by omega), show wrap64 (i + 1) = i + 1 from wid (by omega) (by omega)]) (ih _ (i + 1) (by omega) (by omega))
theorem impl_power_ev (p x : Int) (h : x ≤ 9223372036854775807) : Ev (fun k => impl_power.f k p x) (powW p x.toNat 1) := by
  refine Ev.congr (f := fun k => impl_power.l0 k p 1 x 0) (fun k => rfl) (impl_power_l p x h x.toNat 1 0 (by omega) (by omega))

theorem impl_mark_ev {p L T D : Int} (h : ballB p L T D = true) : Ev (fun k => impl_mark.f k p L T D) (markOf p T D) := by
  obtain ⟨hp, hL, hD, _, _⟩ := ball_parts h
  have hp2 := prime_lo hp
  obtain ⟨m0, m1⟩ := mark_lt h
  have m2 := pow_13 hp (L + 6).toNat (by omega)
  unfold impl_mark.f
  rw [wid (n := 6 - D) (by omega) (by omega)]
  refine Ev.bind (impl_power_ev p _ (by omega)) ?_
  rw [powW_prime hp _ (by omega), show T * p ^ (6 - D).toNat = markOf p T D from rfl, wid (by omega) (by omega)]
  exact Ev.now _

theorem impl_valuation_l (p : Int) (hp : 2 ≤ p) (v : Nat) : ∀ (n u acc : Int), n = p ^ v * u → ¬ p ∣ u → n ≠ 0 → -4611686018427387904 ≤ n → n ≤ 4611686018427387904 → 0 ≤ acc → acc + v ≤ 4611686018427387904 → Ev (fun k => impl_valuation.l0 k p n acc) (acc + v) := by
  induction v with
  | zero =>
    intro n u acc h hu h0 h1 h2 h3 h4
    refine Ev.step (f := fun _ => some acc) (fun k => ?_) (by simp; exact Ev.now _)
    simp only [impl_valuation.l0]
    rw [if_neg (by omega), if_neg]
    intro e
    rw [h] at e
    exact hu (by simpa using Int.dvd_of_tmod_eq_zero e)
  | succ v ih =>
    intro n u acc h hu h0 h1 h2 h3 h4
    have hn : n = p * (p ^ v * u) := by rw [h, Int.pow_succ', Int.mul_assoc]
    have hm : Int.tmod n p = 0 := by rw [hn]; exact Int.mul_tmod_right p _
    have hd : Int.tdiv n p = p ^ v * u := by rw [hn]; exact Int.mul_tdiv_cancel_left _ (by omega)
    have hb := tdiv_bdv p (show -4611686018427387904 ≤ n ∧ n ≤ 4611686018427387904 from ⟨h1, h2⟩)
    have hne : p ^ v * u ≠ 0 := by intro e; rw [e] at hn; simp at hn; exact h0 hn
    refine Ev.step (f := fun k => impl_valuation.l0 k p (p ^ v * u) (acc + 1)) (fun k => ?_) ?_
    · simp only [impl_valuation.l0]
      rw [if_neg (by omega), if_pos hm, hd]
      rw [hd] at hb
      rw [wid (n := p ^ v * u) (by omega) (by omega), wid (n := acc + 1) (by omega) (by omega)]
    · rw [hd] at hb
      have := ih (p ^ v * u) u (acc + 1) rfl hu hne hb.1 hb.2 (by omega) (by omega)
      rw [show acc + ((v + 1 : Nat) : Int) = acc + 1 + (v : Int) from by omega]
      exact this
def valW (p n : Int) : Int := if n = 0 then 1000 else val p n
theorem impl_valuation_ev {p n : Int} (hp : 2 ≤ p) (h1 : -4611686018427387904 ≤ n) (h2 : n ≤ 4611686018427387904) : Ev (fun k => impl_valuation.f k p n) (valW p n) := by
  unfold impl_valuation.f valW
  by_cases h0 : n = 0
  · simp only [if_pos h0]; exact Ev.now _
  · simp only [if_neg h0]
    obtain ⟨u, h, hu⟩ := val_spec hp h0
    have hv := val_le_of_lt hp h0 63 (by omega)
    have := impl_valuation_l p hp (val p n) n u 0 h hu h0 h1 h2 (by omega) (by omega)
    rw [Int.zero_add] at this
    exact this

theorem spec_l01Val_l (p : Int) (hp : 2 ≤ p) (v : Nat) : ∀ (n u acc : Int), n = p ^ v * u → ¬ p ∣ u → n ≠ 0 → -4611686018427387904 ≤ n → n ≤ 4611686018427387904 → 0 ≤ acc → acc + v ≤ 4611686018427387904 → Ev (fun k => spec_l01Val.l0 k p n acc) (acc + v) := by
  induction v with
  | zero =>
    intro n u acc h hu h0 h1 h2 h3 h4
    refine Ev.step (f := fun _ => some acc) (fun k => ?_) (by simp; exact Ev.now _)
    simp only [spec_l01Val.l0]
    rw [if_neg (by omega), if_neg]
    intro e
    rw [h] at e
    exact hu (by simpa using Int.dvd_of_tmod_eq_zero e)
  | succ v ih =>
    intro n u acc h hu h0 h1 h2 h3 h4
    have hn : n = p * (p ^ v * u) := by rw [h, Int.pow_succ', Int.mul_assoc]
    have hm : Int.tmod n p = 0 := by rw [hn]; exact Int.mul_tmod_right p _
    have hd : Int.tdiv n p = p ^ v * u := by rw [hn]; exact Int.mul_tdiv_cancel_left _ (by omega)
    have hb := tdiv_bdv p (show -4611686018427387904 ≤ n ∧ n ≤ 4611686018427387904 from ⟨h1, h2⟩)
    have hne : p ^ v * u ≠ 0 := by intro e; rw [e] at hn; simp at hn; exact h0 hn
    refine Ev.step (f := fun k => spec_l01Val.l0 k p (p ^ v * u) (acc + 1)) (fun k => ?_) ?_
    · simp only [spec_l01Val.l0]
      rw [if_neg (by omega), if_pos hm, hd]
      rw [hd] at hb
      rw [wid (n := p ^ v * u) (by omega) (by omega), wid (n := acc + 1) (by omega) (by omega)]
    · rw [hd] at hb
      have := ih (p ^ v * u) u (acc + 1) rfl hu hne hb.1 hb.2 (by omega) (by omega)
      rw [show acc + ((v + 1 : Nat) : Int) = acc + 1 + (v : Int) from by omega]
      exact this
theorem spec_l01Val_ev {p n : Int} (hp : 2 ≤ p) (h0 : n ≠ 0) (h1 : -4611686018427387904 ≤ n) (h2 : n ≤ 4611686018427387904) : Ev (fun k => spec_l01Val.f k p n) (val p n : Int) := by
  obtain ⟨u, h, hu⟩ := val_spec hp h0
  have hv := val_le_of_lt hp h0 63 (by omega)
  have := spec_l01Val_l p hp (val p n) n u 0 h hu h0 h1 h2 (by omega) (by omega)
  rw [Int.zero_add] at this
  unfold spec_l01Val.f
  exact this

theorem spec_l01Power_l (p : Int) (n : Nat) : ∀ (x acc : Int), (n : Int) ≤ 9223372036854775807 → (x = n ∨ (n = 0 ∧ x ≤ 0)) → Ev (fun k => spec_l01Power.l0 k p x acc) (powW p n acc) := by
  induction n with
  | zero =>
    intro x acc _ hx
    exact Ev.step (f := fun _ => some acc) (fun k => by simp only [spec_l01Power.l0]; rw [if_neg (by omega)]) (Ev.now _)
  | succ n ih =>
    intro x acc hn hx
    have hx' : x = n + 1 := by omega
    exact Ev.step (f := fun k => spec_l01Power.l0 k p n (wrap64 (acc * p))) (fun k => by
      simp only [spec_l01Power.l0]; rw [if_pos (by omega), show wrap64 (x - 1) = (n : Int) from by rw [hx', wid (by omega) (by omega)]; omega]) (ih n _ (by omega) (.inl rfl))
theorem spec_l01Power_ev (p x : Int) (h : x ≤ 9223372036854775807) : Ev (fun k => spec_l01Power.f k p x) (powW p x.toNat 1) := by
  refine Ev.congr (f := fun k => spec_l01Power.l0 k p x 1) (fun k => rfl) (spec_l01Power_l p x.toNat x 1 (by omega) (by omega))

theorem impl_isLevel_eq (L : Int) : impl_isLevel.f L = some (decide (-6 ≤ L ∧ L ≤ 6)) := by
  unfold impl_isLevel.f
  by_cases h : L ≥ -6
  · rw [if_pos h]; congr 1; exact decide_eq_decide.2 ⟨fun h2 => ⟨h, h2⟩, fun h2 => h2.2⟩
  · rw [if_neg h]; congr 1; exact (decide_eq_false (fun h2 => h h2.1)).symm

theorem tmod_cast {a m : Int} (h : 0 ≤ a) : Int.tmod a m = a % m := Int.tmod_eq_emod_of_nonneg h
theorem tdiv_cast {a m : Int} (h : 0 ≤ a) : Int.tdiv a m = a / m := Int.tdiv_eq_ediv_of_nonneg h
theorem tmod_lt' {a m : Int} (hm : 0 < m) : -m < Int.tmod a m ∧ Int.tmod a m < m := by
  have h1 := Int.natAbs_tmod a m
  have h2 := Nat.mod_lt a.natAbs (show 0 < m.natAbs by omega)
  omega
theorem emod_mul_emod' (a b m : Int) : a % m * b % m = a * b % m := by rw [Int.mul_emod (a % m) b m, Int.emod_emod, ← Int.mul_emod]
theorem modW {a m : Int} (hm : 1 ≤ m) (hm2 : m ≤ 2305843009213693952) : Int.tmod (wrap64 (Int.tmod a m + m)) m = a % m := by
  obtain ⟨h1, h2⟩ := tmod_lt' (a := a) (show 0 < m by omega)
  rw [wid (by omega) (by omega), tmod_cast (by omega), Int.add_emod_right]
  have e := Int.tmod_add_mul_tdiv a m
  conv => rhs; rw [← e, Int.add_mul_emod_self_left]

theorem impl_mod_eq {a m : Int} (hm : 1 ≤ m) (hm2 : m ≤ 2305843009213693952) : impl_mod.f a m = some (a % m) := by
  unfold impl_mod.f
  rw [if_neg (by omega), modW hm hm2]
theorem impl_ofMark_ev {p L x : Int} (hp : primeB p = true) (hL : -6 ≤ L ∧ L ≤ 6) : Ev (fun k => impl_ofMark.f k p L x) ((ofM p L x).1, (ofM p L x).2.1, (ofM p L x).2.2, true) := by
  have hp2 := prime_lo hp
  unfold impl_ofMark.f
  refine Ev.bindv (impl_isLevel_eq L) ?_
  rw [decide_eq_true hL]
  simp only [if_true]
  rw [wid (n := L + 6) (by omega) (by omega)]
  refine Ev.bind (impl_power_ev p (L + 6) (by omega)) ?_
  rw [powW_prime hp _ (by omega)]
  have m1 := ipow_pos (p := p) (by omega) (L + 6).toNat
  have m2 := pow_13 hp (L + 6).toNat (by omega)
  refine Ev.bindv (impl_mod_eq m1 (by omega)) ?_
  have x0 := Int.emod_nonneg x (show p ^ (L + 6).toNat ≠ 0 by omega)
  have x1 := Int.emod_lt_of_pos x (show 0 < p ^ (L + 6).toNat by omega)
  refine Ev.bind (impl_valuation_ev hp2 (by omega) (by omega)) ?_
  have hv : valW p (x % p ^ (L + 6).toNat) ≤ 1000 ∧ 0 ≤ valW p (x % p ^ (L + 6).toNat) := by
    unfold valW
    split
    · omega
    · rename_i h0
      have := val_le_of_lt hp2 h0 62 (by omega)
      omega
  have hdn : mx (wrap64 (6 - valW p (x % p ^ (L + 6).toNat))) 0 = (ofM p L x).2.2 := by
    rw [wid (n := 6 - valW p (x % p ^ (L + 6).toNat)) (by omega) (by omega)]
    unfold ofM valW mx
    simp only
    by_cases h0 : x % p ^ (L + 6).toNat = 0
    · rw [if_pos h0, if_pos h0]; rfl
    · rw [if_neg h0, if_neg h0]
      by_cases h6 : ((val p (x % p ^ (L + 6).toNat) : Nat) : Int) < 6
      · rw [if_neg (by omega), if_pos h6]
      · rw [if_neg h6]; split <;> omega
  rw [hdn]
  obtain ⟨_, hD, _⟩ := ofM_back (p := p) (L := L) (X := x) hp2
  rw [wid (n := 6 - (ofM p L x).2.2) (by omega) (by omega)]
  refine Ev.bind (impl_power_ev p _ (by omega)) ?_
  rw [powW_prime hp _ (by omega)]
  have q1 := ipow_pos (p := p) (by omega) (6 - (ofM p L x).2.2).toNat
  simp only [if_neg (show ¬ p ^ (6 - (ofM p L x).2.2).toNat = 0 by omega)]
  rw [tdiv_cast x0]
  have hT : x % p ^ (L + 6).toNat / p ^ (6 - (ofM p L x).2.2).toNat = (ofM p L x).2.1 := rfl
  have d0 := Int.ediv_nonneg x0 (show 0 ≤ p ^ (6 - (ofM p L x).2.2).toNat by omega)
  have d1 := Int.ediv_le_self (p ^ (6 - (ofM p L x).2.2).toNat) x0
  rw [wid (n := x % p ^ (L + 6).toNat / p ^ (6 - (ofM p L x).2.2).toNat) (by omega) (by omega), hT]
  exact Ev.now _
theorem impl_ofMark_out {p L x : Int} (hL : ¬ (-6 ≤ L ∧ L ≤ 6)) : Ev (fun k => impl_ofMark.f k p L x) (0, 0, 0, false) := by
  unfold impl_ofMark.f
  refine Ev.bindv (impl_isLevel_eq L) ?_
  rw [decide_eq_false hL]
  simp only [Bool.false_eq_true, if_false]
  exact Ev.now _

theorem spec_l01MulMod_eq {a b m : Int} (hm : 1 ≤ m) (hm2 : m ≤ 100000000000) : spec_l01MulMod.f a b m = some (a * b % m) := by
  unfold spec_l01MulMod.f
  rw [if_neg (by omega), modW hm (by omega), modW hm (by omega)]
  have a0 := Int.emod_nonneg a (show m ≠ 0 by omega)
  have a1 := Int.emod_lt_of_pos a (show 0 < m by omega)
  have b0 := Int.emod_nonneg b (show m ≠ 0 by omega)
  have b1 := Int.emod_lt_of_pos b (show 0 < m by omega)
  have hab : a * b % m = (a % m) * (b % m) % m := Int.mul_emod a b m
  rw [hab]
  generalize a % m = x at *
  generalize b % m = y at *
  rw [tdiv_cast b0, tmod_cast b0]
  have q0 : 0 ≤ y / 1000000 := by omega
  have q1 : y / 1000000 ≤ 100000 := by omega
  have r0 : 0 ≤ y % 1000000 := by omega
  have r1 : y % 1000000 ≤ 1000000 := by omega
  have p0 : 0 ≤ x * (y / 1000000) := Int.mul_nonneg a0 q0
  have p1 : x * (y / 1000000) ≤ 100000000000 * 100000 := Int.mul_le_mul (by omega) q1 q0 (by omega)
  have s0 : 0 ≤ x * (y % 1000000) := Int.mul_nonneg a0 r0
  have s1 : x * (y % 1000000) ≤ 100000000000 * 1000000 := Int.mul_le_mul (by omega) r1 r0 (by omega)
  rw [wid (n := y / 1000000) (by omega) (by omega), wid (n := x * (y / 1000000)) (by omega) (by omega), wid (n := x * (y % 1000000)) (by omega) (by omega), tmod_cast p0, tmod_cast s0]
  have t0 := Int.emod_nonneg (x * (y / 1000000)) (show m ≠ 0 by omega)
  have t1 := Int.emod_lt_of_pos (x * (y / 1000000)) (show 0 < m by omega)
  rw [wid (n := x * (y / 1000000) % m * 1000000) (by omega) (by omega), tmod_cast (a := x * (y / 1000000) % m * 1000000) (by omega)]
  have u0 := Int.emod_nonneg (x * (y / 1000000) % m * 1000000) (show m ≠ 0 by omega)
  have u1 := Int.emod_lt_of_pos (x * (y / 1000000) % m * 1000000) (show 0 < m by omega)
  have v0 := Int.emod_nonneg (x * (y % 1000000)) (show m ≠ 0 by omega)
  have v1 := Int.emod_lt_of_pos (x * (y % 1000000)) (show 0 < m by omega)
  rw [wid (n := x * (y / 1000000) % m * 1000000 % m + x * (y % 1000000) % m) (by omega) (by omega), tmod_cast (a := x * (y / 1000000) % m * 1000000 % m + x * (y % 1000000) % m) (by omega)]
  congr 1
  have e1 : x * (y / 1000000) % m * 1000000 % m = x * (y / 1000000) * 1000000 % m := by rw [emod_mul_emod']
  rw [e1, ← Int.add_emod]
  congr 1
  rw [Int.mul_assoc, ← Int.mul_add]
  congr 1
  omega

theorem spec_l01InvMod_one {m : Int} (hm : 2 ≤ m) (hm2 : m ≤ 100000000000) : Ev (fun k => spec_l01InvMod.f k 1 m) 1 := by
  have h1 : Int.tmod (wrap64 (Int.tmod 1 m + m)) m = 1 := by rw [modW (by omega) (by omega)]; exact Int.emod_eq_of_lt (by omega) (by omega)
  refine Ev.congr (f := fun k => spec_l01InvMod.l0 k m 1 m 1 0) (fun k => by unfold spec_l01InvMod.f; rw [if_neg (by omega), h1]) ?_
  have q0 : Int.tdiv 1 m = 0 := by rw [tdiv_cast (by omega)]; exact Int.ediv_eq_zero_of_lt (by omega) (by omega)
  have q1 : Int.tdiv m 1 = m := Int.tdiv_one m
  have z0 : wrap64 0 = 0 := wid (by omega) (by omega)
  have z1 : wrap64 1 = 1 := wid (by omega) (by omega)
  refine Ev.step (f := fun k => spec_l01InvMod.l0 k m m 1 0 1) (fun k => ?_) ?_
  · simp only [spec_l01InvMod.l0]
    rw [if_neg (by omega), q0, z0, Int.zero_mul, z0, Int.sub_zero, z1, Int.mul_zero, z0, Int.sub_zero, z1]
  refine Ev.step (f := fun k => spec_l01InvMod.l0 k m 1 0 1 (-m)) (fun k => ?_) ?_
  · simp only [spec_l01InvMod.l0]
    rw [if_neg (by omega), q1, wid (n := m) (by omega) (by omega), Int.mul_one, wid (n := m) (by omega) (by omega), Int.sub_self, z0, Int.zero_sub, wid (n := -m) (by omega) (by omega)]
  refine Ev.step (f := fun _ => some 1) (fun k => ?_) (Ev.now _)
  simp only [spec_l01InvMod.l0]
  rw [if_pos trivial, if_neg (by omega), h1]

theorem In_eq (a b c : Int) : spec_l01In.f a b c = some (decide (b ≤ a ∧ a ≤ c)) := by
  unfold spec_l01In.f
  by_cases h : a ≥ b
  · rw [if_pos h]; congr 1; exact decide_eq_decide.2 ⟨fun h2 => ⟨h, h2⟩, fun h2 => h2.2⟩
  · rw [if_neg h]; congr 1; exact (decide_eq_false (fun h2 => h h2.1)).symm

theorem mx_eq (a b : Int) : mx a b = if a < b then b else a := rfl
theorem spec_l01Of_pow {p num L : Int} (D : Nat) (hp : primeB p = true) (hD : D ≤ 6) (h1 : -1152921504606846976 ≤ num) (h2 : num ≤ 1152921504606846976) (hL : -6 ≤ L ∧ L ≤ 6) :
    Ev (fun k => spec_l01Of.f k p num (p ^ D) L) ((ofM p L (num * p ^ (6 - D))).1, (ofM p L (num * p ^ (6 - D))).2.1, (ofM p L (num * p ^ (6 - D))).2.2, true) := by
  have hp2 := prime_lo hp
  have hpow : ∀ j : Nat, p ^ j ≠ 0 := fun j => Int.pow_ne_zero (by omega)
  have hpD := pow_13 hp D (by omega)
  have hpD1 := ipow_pos (p := p) (by omega) D
  unfold spec_l01Of.f
  refine Ev.bindv (In_eq _ _ _) ?_
  rw [decide_eq_true hL]
  simp only [if_true]
  by_cases h0 : num = 0
  · simp only [if_pos h0]
    have e : ofM p L (num * p ^ (6 - D)) = (L, 0, 0) := by
      rw [h0, Int.zero_mul]; exact ofM_of hp2 (by simp) (by omega) (.inl rfl)
    rw [e]; exact Ev.now _
  simp only [if_neg h0]
  have hvD : val p (p ^ D) = D := val_eq hp2 (u := 1) (by simp) (fun h => by have := Int.le_of_dvd (by omega) h; omega)
  have hv60 := val_le_of_lt hp2 h0 61 (by omega)
  refine Ev.bind (spec_l01Val_ev hp2 h0 (by omega) (by omega)) (Ev.bind (spec_l01Val_ev hp2 (hpow D) (by omega) (by omega)) ?_)
  rw [hvD]
  obtain ⟨u, hu, hn⟩ := val_spec hp2 h0
  generalize hv : val p num = v at *
  rw [wid (n := (v : Int) - (D : Int)) (by omega) (by omega), wid (n := (D : Int) - (v : Int)) (by omega) (by omega)]
  have hX : num * p ^ (6 - D) = p ^ (v + (6 - D)) * u := by
    rw [hu, Int.pow_add, Int.mul_assoc, Int.mul_assoc, Int.mul_comm u]
  by_cases hle : L ≤ (v : Int) - (D : Int)
  · simp only [if_pos hle]
    have e : ofM p L (num * p ^ (6 - D)) = (L, 0, 0) := by
      refine ofM_of hp2 ?_ (by omega) (.inl rfl)
      rw [hX, Int.zero_mul, show v + (6 - D) = (L + 6).toNat + (v + (6 - D) - (L + 6).toNat) from by omega, Int.pow_add, Int.mul_assoc]
      exact Int.mul_emod_right _ _
    rw [e]; exact Ev.now _
  simp only [if_neg hle]
  obtain ⟨dn, hdn⟩ : ∃ dn : Nat, (dn : Int) = mx ((D : Int) - (v : Int)) 0 := ⟨D - v, by rw [mx_eq]; split <;> omega⟩
  have hdn2 : (dn : Int) = if (D : Int) - v < 0 then 0 else (D : Int) - v := by rw [hdn, mx_eq]
  rw [← hdn]
  have hdn6 : dn ≤ D := by split at hdn2 <;> omega
  have hmp : 1 ≤ L + dn := by split at hdn2 <;> omega
  have hmp2 : (L + dn).toNat ≤ 12 := by omega
  simp only [if_neg (show ¬ (dn : Int) > 6 by omega)]
  rw [wid (n := L + (dn : Int)) (by omega) (by omega)]
  refine Ev.bind (spec_l01Power_ev p (L + dn) (by omega)) ?_
  rw [powW_prime hp _ (by omega)]
  have hu0 : u ≠ 0 := by intro e; rw [e] at hn; exact hn (Int.dvd_zero p)
  have hpv1 := ipow_pos (p := p) (by omega) v
  have hpv : p ^ v ≤ 1152921504606846976 := by
    have : num.natAbs = (p ^ v).natAbs * u.natAbs := by rw [← Int.natAbs_mul, ← hu]
    have h3 : (p ^ v).natAbs * 1 ≤ (p ^ v).natAbs * u.natAbs := Nat.mul_le_mul_left _ (by omega)
    omega
  have hub : -1152921504606846976 ≤ u ∧ u ≤ 1152921504606846976 := by
    have : num.natAbs = (p ^ v).natAbs * u.natAbs := by rw [← Int.natAbs_mul, ← hu]
    have h3 : 1 * u.natAbs ≤ (p ^ v).natAbs * u.natAbs := Nat.mul_le_mul_right _ (by omega)
    omega
  have pv : powW p v 1 = p ^ v := by rw [powW_fit p (by omega) v 1 (by omega) (by omega), Int.one_mul]
  refine Ev.bind (spec_l01Power_ev p v (by omega)) ?_
  rw [Int.toNat_natCast, pv]
  simp only [if_neg (hpow v)]
  refine Ev.bind (spec_l01Power_ev p D (by omega)) ?_
  rw [Int.toNat_natCast, powW_prime hp D (by omega)]
  simp only [if_neg (hpow D)]
  rw [Int.tdiv_self (hpow D), show wrap64 1 = 1 from wid (by omega) (by omega)]
  have hm1 : p ^ (L + (dn : Int)).toNat ≤ 13841287201 := pow_13 hp _ hmp2
  have hm0 : 2 ≤ p ^ (L + (dn : Int)).toNat := by
    have := ipow_mono (p := p) (by omega) (show 1 ≤ (L + (dn : Int)).toNat by omega)
    rw [Int.pow_one] at this; omega
  refine Ev.bind (spec_l01InvMod_one hm0 (by omega)) ?_
  have hq : Int.tdiv num (p ^ v) = u := by
    conv => lhs; lhs; rw [hu]
    exact Int.mul_tdiv_cancel_left _ (hpow v)
  rw [hq, wid (n := u) (by omega) (by omega)]
  refine Ev.bindv (spec_l01MulMod_eq (by omega) (by omega)) ?_
  rw [Int.mul_one]
  obtain ⟨e, he⟩ : ∃ e : Nat, (e : Int) = mx ((v : Int) - (D : Int)) 0 := ⟨v - D, by rw [mx_eq]; split <;> omega⟩
  have he2 : (e : Int) = if (v : Int) - D < 0 then 0 else (v : Int) - D := by rw [he, mx_eq]
  rw [← he]
  have hev : e ≤ v := by split at he2 <;> omega
  have hpe : p ^ e ≤ p ^ v := ipow_mono (by omega) hev
  refine Ev.bind (spec_l01Power_ev p e (by omega)) ?_
  rw [Int.toNat_natCast, powW_fit p (by omega) e 1 (by omega) (by omega), Int.one_mul]
  refine Ev.bindv (spec_l01MulMod_eq (by omega) (by omega)) ?_
  have hT : u % p ^ (L + (dn : Int)).toNat * p ^ e % p ^ (L + (dn : Int)).toNat = u * p ^ e % p ^ (L + (dn : Int)).toNat := by rw [emod_mul_emod']
  rw [hT]
  have hexp : v + (6 - D) = (6 - (dn : Int)).toNat + e := by split at hdn2 <;> split at he2 <;> omega
  have hexp2 : (L + 6).toNat = (6 - (dn : Int)).toNat + (L + (dn : Int)).toNat := by omega
  have key : ofM p L (num * p ^ (6 - D)) = (L, u * p ^ e % p ^ (L + (dn : Int)).toNat, (dn : Int)) := by
    refine ofM_of hp2 ?_ (by omega) ?_
    · rw [hX, hexp, hexp2, Int.pow_add, Int.pow_add, Int.mul_assoc, Int.mul_emod_mul_of_pos _ _ (Int.lt_of_lt_of_le (by omega) (ipow_pos (p := p) (by omega) _)), Int.mul_comm (p ^ e) u, Int.mul_comm]
    · by_cases hz : dn = 0
      · left; omega
      · right
        have e0 : e = 0 := by split at hdn2 <;> split at he2 <;> omega
        rw [e0, Int.pow_zero, Int.mul_one]
        intro hd
        apply hn
        have hpm : p ∣ p ^ (L + (dn : Int)).toNat := by
          obtain ⟨j, hj⟩ : ∃ j, (L + (dn : Int)).toNat = j + 1 := ⟨(L + (dn : Int)).toNat - 1, by omega⟩
          rw [hj, Int.pow_succ']; exact Int.dvd_mul_right _ _
        have := Int.dvd_add hd (Int.dvd_trans hpm (Int.dvd_mul_right (p ^ (L + (dn : Int)).toNat) (u / p ^ (L + (dn : Int)).toNat)))
        rwa [Int.emod_add_mul_ediv] at this
  rw [key]
  exact Ev.now _
theorem spec_l01Of_out {p num den L : Int} (hL : ¬ (-6 ≤ L ∧ L ≤ 6)) : Ev (fun k => spec_l01Of.f k p num den L) (0, 0, 0, false) := by
  unfold spec_l01Of.f
  refine Ev.bindv (In_eq _ _ _) ?_
  rw [decide_eq_false hL]
  simp only [Bool.false_eq_true, if_false]
  exact Ev.now _

def jnW (p L L' X Y : Int) : Int := mn (mn L L') (valW p (X - Y) - 6)
theorem valW_bd {p n : Int} (hp : 2 ≤ p) (h1 : -4611686018427387904 ≤ n) (h2 : n ≤ 4611686018427387904) : 0 ≤ valW p n ∧ valW p n ≤ 1000 := by
  unfold valW
  by_cases h : n = 0
  · rw [if_pos h]; omega
  · rw [if_neg h]
    have := val_le_of_lt hp h 63 (by omega)
    omega
theorem mn_min (a b : Int) : mn a b = min a b := by unfold mn; split <;> omega
theorem mx_max2 (a b : Int) : mx a b = max a b := by unfold mx; split <;> omega
theorem mark_top {p L T D : Int} (h : ballB p L T D = true) : 0 ≤ markOf p T D ∧ markOf p T D ≤ 13841287201 := by
  obtain ⟨hp, hL, _⟩ := ball_parts h
  obtain ⟨m0, m1⟩ := mark_lt h
  have := pow_13 hp (L + 6).toNat (by omega)
  omega
section
variable {p L T D L' T' D' : Int} (h : ballB p L T D = true) (h' : ballB p L' T' D' = true)
include h h'
theorem impl_joinLevel_ev : Ev (fun k => impl_joinLevel.f k p L T D L' T' D') (jnW p L L' (markOf p T D) (markOf p T' D')) := by
  have hp := (ball_parts h).1
  have m := mark_top h
  have m' := mark_top h'
  have hv := valW_bd (p := p) (n := markOf p T D - markOf p T' D') (prime_lo hp) (by omega) (by omega)
  unfold impl_joinLevel.f jnW
  refine Ev.bind (impl_mark_ev h) (Ev.bind (impl_mark_ev h') ?_)
  rw [wid (n := markOf p T D - markOf p T' D') (by omega) (by omega)]
  refine Ev.bind (impl_valuation_ev (prime_lo hp) (by omega) (by omega)) ?_
  rw [wid (n := valW p (markOf p T D - markOf p T' D') - 6) (by omega) (by omega)]
  exact Ev.now _
theorem spec_l02Join_ev : Ev (fun k => spec_l02Join.f k p L T D L' T' D') (jnW p L L' (markOf p T D) (markOf p T' D')) := by
  obtain ⟨hp, hL, hD, _, _⟩ := ball_parts h
  obtain ⟨_, hL', hD', _, _⟩ := ball_parts h'
  have hp2 := prime_lo hp
  have m := mark_top h
  have m' := mark_top h'
  have t0 := ball_num h
  have t0' := ball_num h'
  have hv := valW_bd (p := p) (n := markOf p T D - markOf p T' D') hp2 (by omega) (by omega)
  unfold spec_l02Join.f spec_l02Valuation.f
  rw [mx_max2]
  generalize hdn : max D D' = dn
  have hd1 : D ≤ dn ∧ D' ≤ dn ∧ 0 ≤ dn ∧ dn ≤ 6 := by omega
  rw [wid (n := dn - D) (by omega) (by omega), wid (n := dn - D') (by omega) (by omega)]
  have e : markOf p T D = T * p ^ (dn - D).toNat * p ^ (6 - dn).toNat := by
    unfold markOf; rw [Int.mul_assoc, ← Int.pow_add]; congr 2; omega
  have e' : markOf p T' D' = T' * p ^ (dn - D').toNat * p ^ (6 - dn).toNat := by
    unfold markOf; rw [Int.mul_assoc, ← Int.pow_add]; congr 2; omega
  have q1 := ipow_pos (show 1 ≤ p by omega) (6 - dn).toNat
  have q2 := ipow_pos (show 1 ≤ p by omega) (dn - D).toNat
  have q3 := ipow_pos (show 1 ≤ p by omega) (dn - D').toNat
  have w0 := Int.mul_nonneg t0.1 (show 0 ≤ p ^ (dn - D).toNat by omega)
  have w0' := Int.mul_nonneg t0'.1 (show 0 ≤ p ^ (dn - D').toNat by omega)
  have w1 : T * p ^ (dn - D).toNat ≤ markOf p T D := by
    rw [e]
    have := Int.mul_nonneg w0 (show 0 ≤ p ^ (6 - dn).toNat - 1 by omega)
    rw [Int.mul_sub] at this; omega
  have w1' : T' * p ^ (dn - D').toNat ≤ markOf p T' D' := by
    rw [e']
    have := Int.mul_nonneg w0' (show 0 ≤ p ^ (6 - dn).toNat - 1 by omega)
    rw [Int.mul_sub] at this; omega
  have ed : markOf p T D - markOf p T' D' = p ^ (6 - dn).toNat * (T * p ^ (dn - D).toNat - T' * p ^ (dn - D').toNat) := by
    rw [e, e', Int.mul_sub, Int.mul_comm (p ^ (6 - dn).toNat), Int.mul_comm (p ^ (6 - dn).toNat)]
  refine Ev.bind (a := if T * p ^ (dn - D).toNat - T' * p ^ (dn - D').toNat = 0 then (0, false) else ((val p (T * p ^ (dn - D).toNat - T' * p ^ (dn - D').toNat) : Int) - dn, true)) ?_ ?_
  · refine Ev.bind (spec_l01Power_ev p _ (by omega)) (Ev.bind (spec_l01Power_ev p _ (by omega)) ?_)
    rw [powW_prime hp _ (by omega), powW_prime hp _ (by omega), wid (n := T * p ^ (dn - D).toNat) (by omega) (by omega), wid (n := T' * p ^ (dn - D').toNat) (by omega) (by omega), wid (n := T * p ^ (dn - D).toNat - T' * p ^ (dn - D').toNat) (by omega) (by omega)]
    by_cases h0 : T * p ^ (dn - D).toNat - T' * p ^ (dn - D').toNat = 0
    · simp only [if_pos h0]; exact Ev.now _
    · simp only [if_neg h0]
      refine Ev.bind (spec_l01Val_ev hp2 h0 (by omega) (by omega)) ?_
      have := val_le_of_lt hp2 h0 63 (by omega)
      rw [wid (by omega) (by omega)]
      exact Ev.now _
  · unfold jnW
    by_cases h0 : T * p ^ (dn - D).toNat - T' * p ^ (dn - D').toNat = 0
    · simp only [if_pos h0, Bool.false_eq_true, if_false]
      have hz : markOf p T D - markOf p T' D' = 0 := by rw [ed, h0, Int.mul_zero]
      rw [show mn (mn L L') (valW p (markOf p T D - markOf p T' D') - 6) = mn L L' from by
        unfold valW; rw [if_pos hz, mn_min, mn_min]; omega]
      exact Ev.now _
    · simp only [if_neg h0, if_true]
      have hz : markOf p T D - markOf p T' D' ≠ 0 := by
        rw [ed]; exact Int.mul_ne_zero (by omega) h0
      have hv2 : val p (markOf p T D - markOf p T' D') = (6 - dn).toNat + val p (T * p ^ (dn - D).toNat - T' * p ^ (dn - D').toNat) := by
        rw [ed]; exact val_pow_mul _ hp2 h0
      rw [show valW p (markOf p T D - markOf p T' D') - 6 = (val p (T * p ^ (dn - D).toNat - T' * p ^ (dn - D').toNat) : Int) - dn from by
        unfold valW; rw [if_neg hz, hv2]; omega]
      exact Ev.now _
theorem jnW_bd : -6 ≤ jnW p L L' (markOf p T D) (markOf p T' D') ∧ jnW p L L' (markOf p T D) (markOf p T' D') ≤ L ∧ jnW p L L' (markOf p T D) (markOf p T' D') ≤ L' := by
  obtain ⟨hp, hL, _⟩ := ball_parts h
  obtain ⟨_, hL', _⟩ := ball_parts h'
  have m := mark_top h
  have m' := mark_top h'
  have hv := valW_bd (p := p) (n := markOf p T D - markOf p T' D') (prime_lo hp) (by omega) (by omega)
  unfold jnW
  rw [mn_min, mn_min]
  omega
theorem jnW_same : ofM p (jnW p L L' (markOf p T D) (markOf p T' D')) (markOf p T D) = ofM p (jnW p L L' (markOf p T D) (markOf p T' D')) (markOf p T' D') := by
  have hb := jnW_bd h h'
  obtain ⟨hp, hL, _⟩ := ball_parts h
  have hp2 := prime_lo hp
  have m := mark_top h
  have m' := mark_top h'
  have hj : jnW p L L' (markOf p T D) (markOf p T' D') + 6 ≤ valW p (markOf p T D - markOf p T' D') := by
    unfold jnW; rw [mn_min, mn_min]; omega
  generalize jnW p L L' (markOf p T D) (markOf p T' D') = J at hb hj ⊢
  rw [ofM_inj hp2]
  by_cases hz : markOf p T D - markOf p T' D' = 0
  · rw [show markOf p T D = markOf p T' D' by omega]
  · unfold valW at hj
    rw [if_neg hz] at hj
    exact Int.emod_eq_emod_iff_emod_sub_eq_zero.2 (Int.emod_eq_zero_of_dvd ((val_dvd hp2 hz _).2 (by omega)))
end
theorem impl_above_ev {p L T D K : Int} (h : ballB p L T D = true) (hK : -6 ≤ K ∧ K ≤ 6) : Ev (fun k => impl_above.f k p L T D K) ((ofM p K (markOf p T D)).1, (ofM p K (markOf p T D)).2.1, (ofM p K (markOf p T D)).2.2) := by
  unfold impl_above.f
  exact Ev.bind (impl_mark_ev h) (Ev.bind (impl_ofMark_ev (ball_parts h).1 hK) (Ev.now _))
theorem spec_l02Up_ev {p L T D K : Int} (h : ballB p L T D = true) (hK : -6 ≤ K ∧ K ≤ 6) : Ev (fun k => spec_l02Up.f k p L T D K) ((ofM p K (markOf p T D)).1, (ofM p K (markOf p T D)).2.1, (ofM p K (markOf p T D)).2.2, true) := by
  obtain ⟨hp, hL, hD, _⟩ := ball_parts h
  have hT := ball_num h
  unfold spec_l02Up.f
  refine Ev.bind (spec_l01Power_ev p D (by omega)) ?_
  rw [powW_prime hp _ (by omega)]
  have := spec_l01Of_pow (num := T) D.toNat hp (by omega) (by omega) (by omega) hK
  rw [show 6 - D.toNat = (6 - D).toNat from by omega] at this
  exact Ev.bind this (Ev.now _)

theorem rd_nat (l : List Int) (j : Nat) (h : j < l.length) : rd l (j : Int) = l[j] := by
  unfold rd; rw [Int.toNat_natCast, List.getD_eq_getElem?_getD, List.getElem?_eq_getElem h]; rfl
theorem all_ev {β : Type} (g : Nat → Int → Option β) (n : Nat) (p : Nat → Bool) (yes no : β)
    (hstep : ∀ (i : Nat), i < n → p i = true → Ev (fun k => g k ((i : Int) + 1)) yes → Ev (fun k => g k i) yes)
    (hstepno : ∀ (i : Nat), i < n → p i = true → Ev (fun k => g k ((i : Int) + 1)) no → Ev (fun k => g k i) no)
    (hno : ∀ (i : Nat), i < n → p i = false → Ev (fun k => g k i) no)
    (hend : Ev (fun k => g k n) yes) : Ev (fun k => g k 0) (if (List.range n).all p then yes else no) := by
  have key : ∀ (d i : Nat), i + d = n → Ev (fun k => g k i) (if (List.range' i d).all p then yes else no) := by
    intro d
    induction d with
    | zero => intro i hi; have : i = n := by omega
              subst this; simpa using hend
    | succ d ih =>
      intro i hi
      have h := ih (i + 1) (by omega)
      rw [List.range'_succ, List.all_cons]
      cases e : p i with
      | false => simpa using hno i (by omega) e
      | true =>
        rw [Bool.true_and]
        have e1 : (((i + 1 : Nat) : Int)) = (i : Int) + 1 := by omega
        rw [e1] at h
        cases e2 : (List.range' (i + 1) d).all p with
        | true => rw [e2] at h; exact hstep i (by omega) e h
        | false => rw [e2] at h; exact hstepno i (by omega) e h
  have := key n 0 (by omega)
  rw [← List.range_eq_range'] at this
  exact this
theorem all_range_getD {α : Type} (l : List α) (d : α) (q : α → Bool) : (List.range l.length).all (fun i => q (l.getD i d)) = l.all q := by
  rw [Bool.eq_iff_iff]
  simp only [List.all_eq_true, List.mem_range]
  constructor
  · intro h x hx
    obtain ⟨i, hi, rfl⟩ := List.mem_iff_getElem.1 hx
    have := h i hi
    rwa [List.getD_eq_getElem?_getD, List.getElem?_eq_getElem hi] at this
  · intro h i hi
    rw [List.getD_eq_getElem?_getD, List.getElem?_eq_getElem hi]
    exact h _ (List.getElem_mem hi)
theorem all_ev' {β : Type} (g : Nat → Int → Option β) (n : Nat) (p : Nat → Bool) (yes no : β)
    (hstep : ∀ (i : Nat) (r : β), i < n → p i = true → Ev (fun k => g k ((i : Int) + 1)) r → Ev (fun k => g k i) r)
    (hno : ∀ (i : Nat), i < n → p i = false → Ev (fun k => g k i) no)
    (hend : Ev (fun k => g k n) yes) : Ev (fun k => g k 0) (if (List.range n).all p then yes else no) :=
  all_ev g n p yes no (fun i hi hp h => hstep i yes hi hp h) (fun i hi hp h => hstep i no hi hp h) hno hend
theorem ite_tf (b : Bool) : (if b then true else false) = b := by cases b <;> rfl
theorem bt_lo (s : ByteArray) (i : Int) : 0 ≤ bt s i := by unfold bt; split <;> omega
theorem bt_hi (s : ByteArray) (i : Int) : bt s i ≤ 255 := by
  unfold bt; split
  · rename_i h; have := (s[i.toNat]'h).toNat_lt; omega
  · omega
def stepB (p c : Int) : Bool := c == 117 || decide (48 ≤ c ∧ c - 48 < p)
def stepsB (p : Int) (s : ByteArray) : Bool := decide (s.size ≤ 40) && (List.range s.size).all (fun i => stepB p (bt s i))

def parM (p L T D : Int) : Int × Int × Int := ofM p (L - 1) (markOf p T D)
def chM (p L T D c : Int) : Int × Int × Int := ofM p (L + 1) (markOf p T D + c * p ^ (L + 6).toNat)
def parW (p L T D : Int) : Int × Int × Int × Bool := if L = -6 then (0, 0, 0, false) else ((parM p L T D).1, (parM p L T D).2.1, (parM p L T D).2.2, true)
def chW (p L T D c : Int) : Int × Int × Int × Bool := if L = 6 then (0, 0, 0, false) else ((chM p L T D c).1, (chM p L T D c).2.1, (chM p L T D c).2.2, true)
theorem parM_ball {p L T D : Int} (h : ballB p L T D = true) (hL : L ≠ -6) : ballB p (parM p L T D).1 (parM p L T D).2.1 (parM p L T D).2.2 = true := by
  obtain ⟨hp, h1, _⟩ := ball_parts h
  exact ofM_ball (L := L - 1) hp (by omega)
theorem chM_ball {p L T D : Int} (c : Int) (h : ballB p L T D = true) (hL : L ≠ 6) : ballB p (chM p L T D c).1 (chM p L T D c).2.1 (chM p L T D c).2.2 = true := by
  obtain ⟨hp, h1, _⟩ := ball_parts h
  exact ofM_ball (L := L + 1) hp (by omega)
theorem mul_bdc {x y M N : Int} (hx : -M ≤ x ∧ x ≤ M) (hy : 1 ≤ y) (hy2 : y ≤ N) : -(M * N) ≤ x * y ∧ x * y ≤ M * N := by
  have h1 := Int.mul_nonneg (show 0 ≤ M - x by omega) (show 0 ≤ y by omega)
  have h2 := Int.mul_nonneg (show 0 ≤ M + x by omega) (show 0 ≤ y by omega)
  have h3 := Int.mul_nonneg (show 0 ≤ M by omega) (show 0 ≤ N - y by omega)
  simp only [Int.sub_mul, Int.mul_sub, Int.add_mul] at h1 h2 h3
  constructor <;> omega

theorem impl_parent_ev {p L T D : Int} (h : ballB p L T D = true) : Ev (fun k => impl_parent.f k p L T D) (parW p L T D) := by
  obtain ⟨hp, hL, _⟩ := ball_parts h
  unfold impl_parent.f parW
  refine Ev.bind (impl_mark_ev h) ?_
  rw [wid (n := L - 1) (by omega) (by omega)]
  by_cases h6 : L = -6
  · rw [if_pos h6]
    exact Ev.bind (impl_ofMark_out (by omega)) (Ev.now _)
  · rw [if_neg h6]
    exact Ev.bind (impl_ofMark_ev hp (by omega)) (Ev.now _)
theorem impl_child_ev {p L T D c : Int} (h : ballB p L T D = true) (hc : -1000 ≤ c ∧ c ≤ 1000) : Ev (fun k => impl_child.f k p L T D c) (chW p L T D c) := by
  obtain ⟨hp, hL, _⟩ := ball_parts h
  have hp2 := prime_lo hp
  obtain ⟨m0, m1⟩ := mark_lt h
  have q1 := ipow_pos (p := p) (by omega) (L + 6).toNat
  have q2 := pow_13 hp (L + 6).toNat (by omega)
  have a1 := mul_bdc hc q1 q2
  unfold impl_child.f chW
  refine Ev.bind (impl_mark_ev h) ?_
  rw [wid (n := L + 6) (by omega) (by omega)]
  refine Ev.bind (impl_power_ev p _ (by omega)) ?_
  rw [powW_prime hp _ (by omega), wid (n := L + 1) (by omega) (by omega), wid (n := c * p ^ (L + 6).toNat) (by omega) (by omega), wid (n := markOf p T D + c * p ^ (L + 6).toNat) (by omega) (by omega)]
  by_cases h6 : L = 6
  · rw [if_pos h6]
    exact Ev.bind (impl_ofMark_out (by omega)) (Ev.now _)
  · rw [if_neg h6]
    exact Ev.bind (impl_ofMark_ev hp (by omega)) (Ev.now _)
theorem impl_neighbour_ev {p L T D : Int} (c : Int) (h : ballB p L T D = true) (hc : 0 ≤ c ∧ c ≤ 1000) : Ev (fun k => impl_neighbour.f k p L T D c) (if c = 0 then parW p L T D else chW p L T D (c - 1)) := by
  unfold impl_neighbour.f
  by_cases h0 : c = 0
  · simp only [if_pos h0]; exact Ev.bind (impl_parent_ev h) (Ev.now _)
  · simp only [if_neg h0]
    rw [wid (n := c - 1) (by omega) (by omega)]
    exact Ev.bind (impl_child_ev h (by omega)) (Ev.now _)

theorem spec_l01Parent_ev {p L T D : Int} (h : ballB p L T D = true) : Ev (fun k => spec_l01Parent.f k p L T D) (parW p L T D) := by
  obtain ⟨hp, hL, hD, _⟩ := ball_parts h
  have hT := ball_num h
  unfold spec_l01Parent.f parW
  refine Ev.bind (spec_l01Power_ev p D (by omega)) ?_
  rw [powW_prime hp _ (by omega), wid (n := L - 1) (by omega) (by omega)]
  by_cases h6 : L = -6
  · rw [if_pos h6]
    exact Ev.bind (spec_l01Of_out (by omega)) (Ev.now _)
  · rw [if_neg h6]
    have := spec_l01Of_pow (num := T) (L := L - 1) D.toNat hp (by omega) (by omega) (by omega) (by omega)
    rw [show 6 - D.toNat = (6 - D).toNat from by omega] at this
    exact Ev.bind this (Ev.now _)
theorem spec_l01Child_ev {p L T D c : Int} (h : ballB p L T D = true) (hc : -1000 ≤ c ∧ c ≤ 1000) : Ev (fun k => spec_l01Child.f k p L T D c) (chW p L T D c) := by
  obtain ⟨hp, hL, hD, _⟩ := ball_parts h
  have hp2 := prime_lo hp
  have hT := ball_num h
  have pD := pow_13 hp D.toNat (by omega)
  have pD1 := ipow_pos (p := p) (by omega) D.toNat
  unfold spec_l01Child.f chW
  by_cases h6 : L = 6
  · simp only [if_pos h6]; exact Ev.now _
  simp only [if_neg h6]
  refine Ev.bind (spec_l01Power_ev p D (by omega)) ?_
  rw [powW_prime hp _ (by omega)]
  by_cases h0 : L ≥ 0
  · simp only [if_pos h0]
    refine Ev.bind (spec_l01Power_ev p L (by omega)) ?_
    rw [powW_prime hp _ (by omega)]
    have qL := pow_13 hp (L.toNat + D.toNat) (by omega)
    have qL1 := ipow_pos (p := p) (by omega) (L.toNat + D.toNat)
    have a1 := mul_bdc hc pD1 pD
    have a2 := mul_bdc hc qL1 qL
    have e1 : c * p ^ D.toNat * p ^ L.toNat = c * p ^ (L.toNat + D.toNat) := by rw [Int.mul_assoc, ← Int.pow_add, Nat.add_comm]
    rw [wid (n := c * p ^ D.toNat) (by omega) (by omega), e1, wid (n := c * p ^ (L.toNat + D.toNat)) (by omega) (by omega), wid (n := T + c * p ^ (L.toNat + D.toNat)) (by omega) (by omega), wid (n := L + 1) (by omega) (by omega)]
    have := spec_l01Of_pow (num := T + c * p ^ (L.toNat + D.toNat)) (L := L + 1) D.toNat hp (by omega) (by omega) (by omega) (by omega)
    rw [show (T + c * p ^ (L.toNat + D.toNat)) * p ^ (6 - D.toNat) = markOf p T D + c * p ^ (L + 6).toNat from by
      rw [Int.add_mul, Int.mul_assoc, ← Int.pow_add, show L.toNat + D.toNat + (6 - D.toNat) = (L + 6).toNat from by omega, show 6 - D.toNat = (6 - D).toNat from by omega]; rfl] at this
    exact Ev.bind this (Ev.now _)
  · simp only [if_neg h0]
    rw [wid (n := -L) (by omega) (by omega)]
    have pL := pow_13 hp (-L).toNat (by omega)
    have pL1 := ipow_pos (p := p) (by omega) (-L).toNat
    refine Ev.bind (spec_l01Power_ev p (-L) (by omega)) ?_
    rw [powW_prime hp _ (by omega)]
    simp only [if_neg (show ¬ p ^ D.toNat = 0 by omega), if_neg (show ¬ p ^ (-L).toNat = 0 by omega)]
    obtain ⟨E, hE, hE2, hE3, hE4⟩ : ∃ E : Nat, mx (p ^ D.toNat) (p ^ (-L).toNat) = p ^ E ∧ D.toNat ≤ E ∧ (-L).toNat ≤ E ∧ E ≤ 6 := by
      by_cases hc2 : D.toNat ≤ (-L).toNat
      · refine ⟨(-L).toNat, ?_, hc2, Nat.le_refl _, by omega⟩
        have := ipow_mono (p := p) (by omega) hc2
        rw [mx_eq]; split <;> omega
      · refine ⟨D.toNat, ?_, Nat.le_refl _, by omega, by omega⟩
        have := ipow_mono (p := p) (by omega) (show (-L).toNat ≤ D.toNat by omega)
        rw [mx_eq]; split <;> omega
    rw [hE]
    have hpow : ∀ j : Nat, p ^ j ≠ 0 := fun j => Int.pow_ne_zero (by omega)
    have d1 : Int.tdiv (p ^ E) (p ^ D.toNat) = p ^ (E - D.toNat) := by
      rw [show p ^ E = p ^ D.toNat * p ^ (E - D.toNat) from by rw [← Int.pow_add]; congr 1; omega]
      exact Int.mul_tdiv_cancel_left _ (hpow _)
    have d2 : Int.tdiv (p ^ E) (p ^ (-L).toNat) = p ^ (E - (-L).toNat) := by
      rw [show p ^ E = p ^ (-L).toNat * p ^ (E - (-L).toNat) from by rw [← Int.pow_add]; congr 1; omega]
      exact Int.mul_tdiv_cancel_left _ (hpow _)
    have b1 := pow_13 hp (E - D.toNat) (by omega)
    have b2 := ipow_pos (p := p) (by omega) (E - D.toNat)
    have b5 : p ^ (E - D.toNat) ≤ 117649 := by
      have h1 : p ^ (E - D.toNat) ≤ p ^ 6 := ipow_mono (by omega) (by omega)
      have h2 : p ^ 6 ≤ 117649 := by rcases prime_cases hp with rfl | rfl | rfl | rfl <;> decide
      omega
    have b3 := pow_13 hp (E - (-L).toNat) (by omega)
    have b4 := ipow_pos (p := p) (by omega) (E - (-L).toNat)
    rw [d1, d2, wid (n := p ^ (E - D.toNat)) (by omega) (by omega), wid (n := p ^ (E - (-L).toNat)) (by omega) (by omega)]
    have a1 : T * p ^ (E - D.toNat) ≤ 13841287201 * 117649 := Int.mul_le_mul hT.2 b5 (by omega) (by omega)
    have a0 : 0 ≤ T * p ^ (E - D.toNat) := Int.mul_nonneg hT.1 (by omega)
    have a2 := mul_bdc hc b4 b3
    rw [wid (n := T * p ^ (E - D.toNat)) (by omega) (by omega), wid (n := c * p ^ (E - (-L).toNat)) (by omega) (by omega), wid (n := T * p ^ (E - D.toNat) + c * p ^ (E - (-L).toNat)) (by omega) (by omega), wid (n := L + 1) (by omega) (by omega)]
    have := spec_l01Of_pow (num := T * p ^ (E - D.toNat) + c * p ^ (E - (-L).toNat)) (L := L + 1) E hp hE4 (by omega) (by omega) (by omega)
    rw [show (T * p ^ (E - D.toNat) + c * p ^ (E - (-L).toNat)) * p ^ (6 - E) = markOf p T D + c * p ^ (L + 6).toNat from by
      rw [Int.add_mul, Int.mul_assoc, Int.mul_assoc, ← Int.pow_add, ← Int.pow_add, show E - (-L).toNat + (6 - E) = (L + 6).toNat from by omega, show E - D.toNat + (6 - E) = (6 - D).toNat from by omega]; rfl] at this
    exact Ev.bind this (Ev.now _)

theorem Ev.up {α : Type} {g : Nat → Option α} {r : α} (h : Ev (fun k => g (k + 1)) r) : Ev g r := Ev.step (f := fun k => g (k + 1)) (fun _ => rfl) h

def upB (p X n : Int) : S25 := ⟨(ofM p n X).1, (ofM p n X).2.1, (ofM p n X).2.2⟩
theorem upB_ok {p X n : Int} (hp : primeB p = true) (hn : -6 ≤ n ∧ n ≤ 6) : ballB p n (ofM p n X).2.1 (ofM p n X).2.2 = true := ofM_ball hp hn
theorem upB_mark {p X n : Int} (hp : primeB p = true) : markOf p (ofM p n X).2.1 (ofM p n X).2.2 = X % p ^ (n + 6).toNat := (ofM_back (prime_lo hp)).1
theorem chM_dig {p X n : Int} (hp : primeB p = true) (hn : -6 ≤ n ∧ n < 6) : ∃ k : Nat, (k : Int) < p ∧ chM p n (ofM p n X).2.1 (ofM p n X).2.2 k = ofM p (n + 1) X := by
  have hp2 := prime_lo hp
  have k0 := Int.emod_nonneg (X / p ^ (n + 6).toNat) (show p ≠ 0 by omega)
  have k1 := Int.emod_lt_of_pos (X / p ^ (n + 6).toNat) (show 0 < p by omega)
  refine ⟨(X / p ^ (n + 6).toNat % p).toNat, by omega, ?_⟩
  unfold chM
  rw [upB_mark hp, Int.toNat_of_nonneg k0, ofM_inj hp2, show (n + 1 + 6).toNat = (n + 6).toNat + 1 by omega, Int.pow_succ]
  have e1 := Int.emod_add_mul_ediv X (p ^ (n + 6).toNat)
  have e2 := Int.emod_add_mul_ediv (X / p ^ (n + 6).toNat) p
  have e3 : X = X % p ^ (n + 6).toNat + X / p ^ (n + 6).toNat % p * p ^ (n + 6).toNat + p ^ (n + 6).toNat * p * (X / p ^ (n + 6).toNat / p) := by
    have e4 : p ^ (n + 6).toNat * (X / p ^ (n + 6).toNat) = X / p ^ (n + 6).toNat % p * p ^ (n + 6).toNat + p ^ (n + 6).toNat * p * (X / p ^ (n + 6).toNat / p) := by
      conv => lhs; rhs; rw [← e2]
      rw [Int.mul_add, Int.mul_comm (p ^ (n + 6).toNat) (X / p ^ (n + 6).toNat % p), Int.mul_assoc]
    omega
  conv => rhs; lhs; rw [e3]
  rw [Int.add_mul_emod_self_left]
theorem parM_up {p X n : Int} (hp : primeB p = true) (hn : -6 ≤ n ∧ n < 6) : parM p (n + 1) (ofM p (n + 1) X).2.1 (ofM p (n + 1) X).2.2 = ofM p n X := by
  have hp2 := prime_lo hp
  unfold parM
  rw [upB_mark hp, show n + 1 - 1 = n by omega, ofM_inj hp2]
  exact Int.emod_emod_of_dvd _ ⟨p ^ 1, by rw [← Int.pow_add]; congr 1; omega⟩
def qB (p L T D : Int) (B : Int × Int × Int) (c : Int) : Bool := (chM p L T D c).1 == B.1 && ((chM p L T D c).2.1 == B.2.1 && (chM p L T D c).2.2 == B.2.2)
theorem find_ev {p L T D : Int} (h : ballB p L T D = true) (hL : L ≠ 6) (B : Int × Int × Int) (d : Nat) : ∀ (i : Int), 0 ≤ i → i + d < p → qB p L T D B (i + d) = true →
    ∃ m, (i ≤ m ∧ m < p) ∧ Ev (fun k => spec_l10Digit.l0 k p i B.1 B.2.1 B.2.2 L T D) m ∧ Ev (fun k => impl_toward.l0 k p (i + 1) L T D B.1 B.2.1 B.2.2) (m + 1) ∧ qB p L T D B m = true := by
  have hp := (ball_parts h).1
  have hp7 := prime_hi hp
  have hch (c : Int) : chW p L T D c = ((chM p L T D c).1, (chM p L T D c).2.1, (chM p L T D c).2.2, true) := by unfold chW; rw [if_neg hL]
  have yes (i : Int) (h0 : 0 ≤ i) (h1 : i < p) (hq : qB p L T D B i = true) : ∃ m, (i ≤ m ∧ m < p) ∧ Ev (fun k => spec_l10Digit.l0 k p i B.1 B.2.1 B.2.2 L T D) m ∧ Ev (fun k => impl_toward.l0 k p (i + 1) L T D B.1 B.2.1 B.2.2) (m + 1) ∧ qB p L T D B m = true := by
    have hq0 := hq
    unfold qB at hq
    refine ⟨i, ⟨Int.le_refl _, h1⟩, ?_, ?_, hq0⟩
    · refine Ev.up ?_
      simp only [spec_l10Digit.l0, if_pos h1]
      have hc := spec_l01Child_ev h (c := i) (by omega)
      rw [hch] at hc
      refine Ev.bind hc ?_
      simp only [hq, if_true]
      exact Ev.now _
    · refine Ev.up ?_
      simp only [impl_toward.l0, if_pos (show i + 1 ≤ p by omega)]
      have hc := impl_neighbour_ev (i + 1) h (by omega)
      rw [if_neg (show ¬ i + 1 = 0 by omega), show i + 1 - 1 = i by omega, hch] at hc
      refine Ev.bind hc ?_
      simp only [hq, if_true]
      exact Ev.now _
  induction d with
  | zero => intro i h0 h1 hq; exact yes i h0 (by omega) (by simpa using hq)
  | succ d ih =>
    intro i h0 h1 hq
    cases hqi : qB p L T D B i with
    | true => exact yes i h0 (by omega) hqi
    | false =>
      obtain ⟨m, m1, m2, m3, m4⟩ := ih (i + 1) (by omega) (by omega) (by rw [show i + 1 + (d : Int) = i + ((d + 1 : Nat) : Int) by omega]; exact hq)
      unfold qB at hqi
      refine ⟨m, ⟨by omega, m1.2⟩, ?_, ?_, m4⟩
      · refine Ev.up ?_
        simp only [spec_l10Digit.l0, if_pos (show i < p by omega)]
        have hc := spec_l01Child_ev h (c := i) (by omega)
        rw [hch] at hc
        refine Ev.bind hc ?_
        rw [wid (n := i + 1) (by omega) (by omega)]
        simp only [hqi, if_true, Bool.false_eq_true, if_false]
        exact m2
      · refine Ev.up ?_
        simp only [impl_toward.l0, if_pos (show i + 1 ≤ p by omega)]
        have hc := impl_neighbour_ev (i + 1) h (by omega)
        rw [if_neg (show ¬ i + 1 = 0 by omega), show i + 1 - 1 = i by omega, hch] at hc
        refine Ev.bind hc ?_
        rw [wid (n := i + 1 + 1) (by omega) (by omega)]
        simp only [hqi, if_true, Bool.false_eq_true, if_false]
        exact m3
theorem digit_ev {p X n : Int} (hp : primeB p = true) (hn : -6 ≤ n ∧ n < 6) : ∃ m, (0 ≤ m ∧ m < p) ∧ Ev (fun k => spec_l10Digit.f k p (n + 1) (ofM p (n + 1) X).2.1 (ofM p (n + 1) X).2.2) m ∧
    Ev (fun k => impl_letterTo.f k p (upB p X n).f0 (upB p X n).f1 (upB p X n).f2 (upB p X (n + 1)).f0 (upB p X (n + 1)).f1 (upB p X (n + 1)).f2) (48 + m) ∧ chM p n (ofM p n X).2.1 (ofM p n X).2.2 m = ofM p (n + 1) X := by
  have hp7 := prime_hi hp
  obtain ⟨k0, h1, h2⟩ := chM_dig (X := X) hp hn
  have hb := upB_ok (X := X) hp (show -6 ≤ n ∧ n ≤ 6 by omega)
  obtain ⟨m, m1, m2, m3, m4⟩ := find_ev hb (by omega) (ofM p (n + 1) X) k0 0 (by omega) (by omega) (by unfold qB; rw [show (0 : Int) + (k0 : Int) = k0 by omega, h2]; simp)
  refine ⟨m, m1, ?_, ?_, ?_⟩
  rotate_left 2
  · unfold qB at m4
    rw [Bool.and_eq_true, Bool.and_eq_true, beq_iff_eq, beq_iff_eq, beq_iff_eq] at m4
    exact Prod.ext m4.1 (Prod.ext m4.2.1 m4.2.2)
  · unfold spec_l10Digit.f
    have hpar := spec_l01Parent_ev (upB_ok (X := X) hp (show -6 ≤ n + 1 ∧ n + 1 ≤ 6 by omega))
    unfold parW at hpar
    rw [if_neg (show ¬ n + 1 = -6 by omega), parM_up hp hn] at hpar
    refine Ev.bind hpar ?_
    exact m2
  · unfold impl_letterTo.f
    show Ev (fun k => if n + 1 < n then _ else _) _
    simp only [if_neg (show ¬ n + 1 < n by omega)]
    unfold impl_toward.f
    refine Ev.bind (a := m + 1) m3 ?_
    rw [wid (n := 48 + (m + 1)) (by omega) (by omega), wid (n := 48 + (m + 1) - 1) (by omega) (by omega), show (48 + (m + 1) - 1) % 256 = 48 + m by omega]
    exact Ev.now _
section
variable {p L T D L' T' D' : Int} (h : ballB p L T D = true) (h' : ballB p L' T' D' = true) (J : Int) (na nb : Nat) (hJ : -6 ≤ J) (hna : L = J + na) (hnb : L' = J + nb) (hsame : ofM p J (markOf p T D) = ofM p J (markOf p T' D'))
def wayAt (p X X' J : Int) (na i : Nat) : S25 := if i < na then upB p X (J + na - i) else upB p X' (J + (i - na : Nat))
include h h' hJ hna hnb hsame in
theorem geo_l1 (d : Nat) : ∀ (j : Nat), j + d = nb → Ev (fun k => impl_geodesic.l1 k p ((List.range (na + 1 + j)).map (wayAt p (markOf p T D) (markOf p T' D') J na)) (J + 1 + j) L' T' D') ((List.range (na + 1 + nb)).map (wayAt p (markOf p T D) (markOf p T' D') J na)) := by
  have hl := (ball_parts h).2.1
  have hl' := (ball_parts h').2.1
  induction d with
  | zero =>
    intro j hj
    obtain rfl : j = nb := by omega
    refine Ev.up ?_
    simp only [impl_geodesic.l1, if_neg (show ¬ J + 1 + (j : Int) ≤ L' by omega)]
    exact Ev.now _
  | succ d ih =>
    intro j hj
    refine Ev.up ?_
    simp only [impl_geodesic.l1, if_pos (show J + 1 + (j : Int) ≤ L' by omega)]
    refine Ev.bind (impl_above_ev h' (by omega)) ?_
    rw [wid (n := J + 1 + (j : Int) + 1) (by omega) (by omega)]
    simp only [List.length_map, List.length_range, if_pos (show na + 1 + j < 5864062014805 by omega)]
    have e : (List.range (na + 1 + j)).map (wayAt p (markOf p T D) (markOf p T' D') J na) ++ [upB p (markOf p T' D') (J + 1 + j)] = (List.range (na + 1 + (j + 1))).map (wayAt p (markOf p T D) (markOf p T' D') J na) := by
      rw [show na + 1 + (j + 1) = na + 1 + j + 1 by omega, List.range_succ, List.map_append, List.map_singleton]
      congr 2
      unfold wayAt
      rw [if_neg (by omega), show J + ((na + 1 + j - na : Nat) : Int) = J + 1 + j by omega]
    have := ih (j + 1) (by omega)
    rw [← e, show J + 1 + ((j + 1 : Nat) : Int) = J + 1 + (j : Int) + 1 by omega] at this
    exact this
include h h' hJ hna hnb hsame in
theorem geo_l0 (d : Nat) : ∀ (i : Nat), i + d = na + 1 → Ev (fun k => impl_geodesic.l0 k p J ((List.range i).map (wayAt p (markOf p T D) (markOf p T' D') J na)) (L - i) L T D L' T' D') ((List.range (na + 1 + nb)).map (wayAt p (markOf p T D) (markOf p T' D') J na)) := by
  have hl := (ball_parts h).2.1
  have hl' := (ball_parts h').2.1
  induction d with
  | zero =>
    intro i hi
    obtain rfl : i = na + 1 := by omega
    refine Ev.up ?_
    simp only [impl_geodesic.l0, if_neg (show ¬ L - ((na + 1 : Nat) : Int) ≥ J by omega)]
    rw [wid (n := J + 1) (by omega) (by omega)]
    have := geo_l1 h h' J na nb hJ hna hnb hsame nb 0 (by omega)
    simpa using this
  | succ d ih =>
    intro i hi
    refine Ev.up ?_
    simp only [impl_geodesic.l0, if_pos (show L - (i : Int) ≥ J by omega)]
    refine Ev.bind (impl_above_ev h (by omega)) ?_
    rw [wid (n := L - (i : Int) - 1) (by omega) (by omega)]
    simp only [List.length_map, List.length_range, if_pos (show i < 5864062014805 by omega)]
    have e : (List.range i).map (wayAt p (markOf p T D) (markOf p T' D') J na) ++ [upB p (markOf p T D) (L - i)] = (List.range (i + 1)).map (wayAt p (markOf p T D) (markOf p T' D') J na) := by
      rw [List.range_succ, List.map_append, List.map_singleton]
      congr 2
      unfold wayAt
      by_cases hlt : i < na
      · rw [if_pos hlt, hna]
      · rw [if_neg hlt, show L - (i : Int) = J by omega, show J + ((i - na : Nat) : Int) = J by omega]
        unfold upB
        rw [hsame]
    have := ih (i + 1) (by omega)
    rw [← e, show L - ((i + 1 : Nat) : Int) = L - (i : Int) - 1 by omega] at this
    exact this
theorem wayAt_rd (p X X' J : Int) (na N i : Nat) (hi : i < N) : rd_T25 ((List.range N).map (wayAt p X X' J na)) (i : Int) = wayAt p X X' J na i := by
  show ((List.range N).map (wayAt p X X' J na)).getD i z25 = _
  rw [List.getD_eq_getElem?_getD, List.getElem?_map, List.getElem?_range hi]
  rfl
include h h' hJ hna hnb hsame in
include h h' hJ hna hnb hsame in
end
def letW (p : Int) (b : S25) (c : Int) : Int × Int × Int × Bool := if c = 117 then parW p b.f0 b.f1 b.f2 else chW p b.f0 b.f1 b.f2 (c - 48)
def okB (p : Int) (b : S25) : Prop := ballB p b.f0 b.f1 b.f2 = true
theorem letW_ok {p : Int} {b : S25} (c : Int) (h : okB p b) (hf : (letW p b c).2.2.2 = true) : okB p ⟨(letW p b c).1, (letW p b c).2.1, (letW p b c).2.2.1⟩ := by
  unfold letW at *
  unfold okB at *
  by_cases hc : c = 117
  · simp only [if_pos hc] at *
    unfold parW at *
    by_cases h6 : b.f0 = -6
    · simp [if_pos h6] at hf
    · simp only [if_neg h6]; exact parM_ball h h6
  · simp only [if_neg hc] at *
    unfold chW at *
    by_cases h6 : b.f0 = 6
    · simp [if_pos h6] at hf
    · simp only [if_neg h6]; exact chM_ball _ h h6
def folW (p : Int) (s : ByteArray) : Nat → Nat → S25 → Option S25
  | 0, _, b => some b
  | n + 1, i, b => if (letW p b (bt s i)).2.2.2 = true then folW p s n (i + 1) ⟨(letW p b (bt s i)).1, (letW p b (bt s i)).2.1, (letW p b (bt s i)).2.2.1⟩ else none

theorem stepB_bd {p : Int} {c : Int} (hp : primeB p = true) (h : stepB p c = true) : c = 117 ∨ (48 ≤ c ∧ c - 48 < p ∧ c ≤ 54) := by
  have := prime_hi hp
  unfold stepB at h
  rw [Bool.or_eq_true, beq_iff_eq, decide_eq_true_eq] at h
  omega
theorem impl_follow_l {p : Int} (s : ByteArray) (hp : primeB p = true) (hs : s.size ≤ 40) (hst : ∀ i, i < s.size → stepB p (bt s (i : Int)) = true) (n : Nat) : ∀ (i : Nat) (b : S25) (xs : List S25), i + n = s.size → okB p b → xs.length = i + 1 → xs[i]? = some b →
    ∃ ys : List S25, Ev (fun k => impl_follow.l0 k p s xs s.size i b.f0 b.f1 b.f2) (if (folW p s n i b).isSome then (ys, true) else ([], false)) ∧
      (∀ b', folW p s n i b = some b' → ys.length = s.size + 1 ∧ ys[s.size]? = some b' ∧ okB p b') := by
  induction n with
  | zero =>
    intro i b xs hi hb hl hx
    have hi' : i = s.size := by omega
    subst hi'
    refine ⟨xs, ?_, ?_⟩
    · exact Ev.step (f := fun _ => some (xs, true)) (fun k => by simp only [impl_follow.l0]; rw [if_neg (by omega)]) (Ev.now _)
    · intro b' h'
      simp only [folW, Option.some.injEq] at h'
      subst h'
      exact ⟨hl, hx, hb⟩
  | succ n ih =>
    intro i b xs hi hb hl hx
    have hlt : i < s.size := by omega
    have hc := stepB_bd hp (hst i hlt)
    have step : Ev (fun k => (impl_neighbour.f k p b.f0 b.f1 b.f2 (if bt s (i : Int) = 117 then 0 else bt s (i : Int) - 48 + 1))) (letW p b (bt s (i : Int))) := by
      have := impl_neighbour_ev (if bt s (i : Int) = 117 then 0 else bt s (i : Int) - 48 + 1) hb (by split <;> omega)
      unfold letW
      by_cases h117 : bt s (i : Int) = 117
      · simp only [if_pos h117, if_true] at *; exact this
      · simp only [if_neg h117] at *
        rw [if_neg (by omega), show bt s (i : Int) - 48 + 1 - 1 = bt s (i : Int) - 48 from by omega] at this
        exact this
    have hw : wrap64 ((i : Int) + 1) = ((i + 1 : Nat) : Int) := by rw [wid (by omega) (by omega)]; rfl
    have red : ∀ k, impl_follow.l0 (k + 1) p s xs s.size i b.f0 b.f1 b.f2 = (impl_neighbour.f k p b.f0 b.f1 b.f2 (if bt s (i : Int) = 117 then 0 else bt s (i : Int) - 48 + 1)).bind fun t => if t.2.2.2 = true then impl_follow.l0 k p s (xs ++ [⟨t.1, t.2.1, t.2.2.1⟩]) s.size ((i + 1 : Nat) : Int) t.1 t.2.1 t.2.2.1 else some ([], false) := by
      intro k
      simp only [impl_follow.l0]
      rw [if_pos (by omega), if_pos (by omega), if_pos (by omega)]
      simp only [if_pos (show xs.length < 5864062014805 by omega), hw]
      by_cases h117 : bt s (i : Int) = 117
      · rw [if_pos h117, if_pos h117]
      · rw [if_neg h117, if_neg h117, show (bt s (i : Int) - 48) % 256 = bt s (i : Int) - 48 from by omega]
    generalize hr : letW p b (bt s (i : Int)) = r at *
    cases hf : r.2.2.2 with
    | false =>
      refine ⟨[], Ev.step red (Ev.bind step ?_), ?_⟩
      · simp only [folW, hr, hf, Bool.false_eq_true, if_false, Option.isSome_none]; exact Ev.now _
      · intro b' h'; simp [folW, hr, hf] at h'
    | true =>
      have hb2 : okB p ⟨r.1, r.2.1, r.2.2.1⟩ := by have := letW_ok (bt s (i : Int)) hb (by rw [hr]; exact hf); rwa [hr] at this
      obtain ⟨ys, h1, h2⟩ := ih (i + 1) ⟨r.1, r.2.1, r.2.2.1⟩ (xs ++ [⟨r.1, r.2.1, r.2.2.1⟩]) (by omega) hb2 (by simp [hl]) (by rw [List.getElem?_append_right (by omega), hl]; simp)
      refine ⟨ys, Ev.step red (Ev.bind step ?_), ?_⟩
      · simp only [folW, hr, hf, if_true]; exact h1
      · intro b' h'; apply h2; simpa [folW, hr, hf] using h'

theorem spec_l10Step_ev {p L T D c : Int} (h : ballB p L T D = true) (hc : 0 ≤ c ∧ c ≤ 255) : Ev (fun k => spec_l10Step.f k p L T D c) (if c = 117 then parW p L T D else chW p L T D (c - 48)) := by
  unfold spec_l10Step.f
  by_cases h0 : c = 117
  · simp only [if_pos h0]; exact Ev.bind (spec_l01Parent_ev h) (Ev.now _)
  · simp only [if_neg h0]
    rw [wid (n := c) (by omega) (by omega), wid (n := c - 48) (by omega) (by omega)]
    exact Ev.bind (spec_l01Child_ev h (by omega)) (Ev.now _)

theorem spec_l10Is_ev (p : Int) (s : ByteArray) (hp : primeB p = true) (hs : s.size ≤ 4611686018427387904) : Ev (fun k => spec_l10Is.f k p s) (stepsB p s) := by
  have h2 := prime_lo hp
  have h7 := prime_hi hp
  unfold spec_l10Is.f stepsB
  by_cases h40 : s.size ≤ 40
  · rw [decide_eq_true h40, Bool.true_and]
    simp only [if_neg (show ¬ (s.size : Int) > 40 by omega)]
    rw [← ite_tf ((List.range s.size).all _)]
    have body : ∀ (i : Nat) (k : Nat), i < s.size → bt s i ≠ 117 → spec_l10Is.l0 (k + 1) p s i = if decide (48 ≤ bt s i ∧ bt s i - 48 < p) = true then spec_l10Is.l0 k p s ((i : Int) + 1) else some false := by
      intro i k hi hc
      have := bt_lo s i
      have := bt_hi s i
      simp only [spec_l10Is.l0]
      rw [if_pos (by omega), if_pos (by omega), if_neg hc, wid (n := bt s i) (by omega) (by omega), wid (n := bt s i - 48) (by omega) (by omega), wid (n := p - 1) (by omega) (by omega), In_eq, wid (n := (i : Int) + 1) (by omega) (by omega)]
      simp only [Option.bind_some]
      rw [show decide (0 ≤ bt s i - 48 ∧ bt s i - 48 ≤ p - 1) = decide (48 ≤ bt s i ∧ bt s i - 48 < p) from decide_eq_decide.2 (by omega)]
    refine all_ev' (fun k i => spec_l10Is.l0 k p s i) s.size (fun i => stepB p (bt s i)) true false ?_ ?_ ?_
    · intro i r hi hb hr
      refine Ev.step (f := fun k => spec_l10Is.l0 k p s ((i : Int) + 1)) (fun k => ?_) hr
      by_cases hc : bt s i = 117
      · simp only [spec_l10Is.l0]
        rw [if_pos (by omega), if_pos (by omega), if_pos hc, wid (by omega) (by omega)]
      · rw [body i k hi hc]
        have : decide (48 ≤ bt s i ∧ bt s i - 48 < p) = true := by simpa [stepB, hc] using hb
        rw [this]; simp
    · intro i hi hb
      refine Ev.step (f := fun _ => some false) (fun k => ?_) (Ev.now _)
      have hc : bt s i ≠ 117 := by intro h; simp [stepB, h] at hb
      rw [body i k hi hc]
      have : decide (48 ≤ bt s i ∧ bt s i - 48 < p) = false := by
        unfold stepB at hb
        rw [beq_eq_false_iff_ne.2 hc, Bool.false_or] at hb
        exact hb
      rw [this]; simp
    · exact Ev.step (f := fun _ => some true) (fun k => by simp only [spec_l10Is.l0]; rw [if_neg (by omega)]) (Ev.now _)
  · rw [decide_eq_false h40, Bool.false_and]
    simp only [if_pos (show (s.size : Int) > 40 by omega)]
    exact Ev.now _

theorem impl_isSteps_ev (p : Int) (s : ByteArray) (hp : primeB p = true) (hs : s.size ≤ 4611686018427387904) : Ev (fun k => impl_isSteps.f k p s) (stepsB p s) := by
  have h2 := prime_lo hp
  have h7 := prime_hi hp
  unfold impl_isSteps.f stepsB
  have body : ∀ (i : Nat) (k : Nat), i < s.size → bt s i ≠ 117 → impl_isSteps.l0 (k + 1) p s s.size i = if decide (48 ≤ bt s i ∧ bt s i - 48 < p) = true then impl_isSteps.l0 k p s s.size ((i : Int) + 1) else some false := by
    intro i k hi hc
    have := bt_lo s i
    have := bt_hi s i
    simp only [impl_isSteps.l0]
    rw [if_pos (by omega), if_pos (by omega), if_pos (by omega), if_neg hc, wid (n := (i : Int) + 1) (by omega) (by omega)]
    by_cases h1 : bt s i < 48
    · rw [if_pos h1, decide_eq_false (by omega)]; simp
    · rw [if_neg h1, show (bt s i - 48) % 256 = bt s i - 48 from by omega]
      by_cases h3 : bt s i - 48 ≥ p
      · rw [if_pos h3, decide_eq_false (by omega)]; simp
      · rw [if_neg h3, decide_eq_true (by omega)]; simp
  have := all_ev' (fun k i => impl_isSteps.l0 k p s s.size i) s.size (fun i => stepB p (bt s i)) (decide ((s.size : Int) ≤ 40)) false (by
    intro i r hi hb hr
    refine Ev.step (f := fun k => impl_isSteps.l0 k p s s.size ((i : Int) + 1)) (fun k => ?_) hr
    by_cases hc : bt s i = 117
    · simp only [impl_isSteps.l0]
      rw [if_pos (by omega), if_pos (by omega), if_pos (by omega), if_pos hc, wid (by omega) (by omega)]
    · rw [body i k hi hc]
      have : decide (48 ≤ bt s i ∧ bt s i - 48 < p) = true := by simpa [stepB, hc] using hb
      rw [this]; simp) (by
    intro i hi hb
    refine Ev.step (f := fun _ => some false) (fun k => ?_) (Ev.now _)
    have hc : bt s i ≠ 117 := by intro h; simp [stepB, h] at hb
    rw [body i k hi hc]
    have : decide (48 ≤ bt s i ∧ bt s i - 48 < p) = false := by
      unfold stepB at hb
      rw [beq_eq_false_iff_ne.2 hc, Bool.false_or] at hb
      exact hb
    rw [this]; simp) (Ev.step (f := fun _ => some (decide ((s.size : Int) ≤ 40))) (fun k => by simp only [impl_isSteps.l0]; rw [if_neg (by omega)]) (Ev.now _))
  rw [show (decide (s.size ≤ 40) && (List.range s.size).all (fun i => stepB p (bt s i))) = (if (List.range s.size).all (fun i => stepB p (bt s i)) = true then decide ((s.size : Int) ≤ 40) else false) from by
    cases (List.range s.size).all (fun i => stepB p (bt s i)) with
    | false => simp
    | true => simp only [if_true, Bool.and_true]; exact decide_eq_decide.2 (by omega)]
  exact this

theorem spec_l01Prime_eq (p : Int) : spec_l01Prime.f p = some (primeB p) := by
  unfold spec_l01Prime.f primeB
  by_cases h2 : p = 2
  · simp [h2]
  · by_cases h3 : p = 3
    · simp [h3]
    · by_cases h5 : p = 5
      · simp [h5]
      · rw [if_neg h2, if_neg h3, if_neg h5, beq_eq_false_iff_ne.2 h2, beq_eq_false_iff_ne.2 h3, beq_eq_false_iff_ne.2 h5]; rfl

theorem spec_l01Is_ev (p L T D : Int) : Ev (fun k => spec_l01Is.f k p L T D) (ballB p L T D) := by
  have hno : Ev (fun k => spec_l01Is.j0 k p true L T D) false := Ev.step (f := fun _ => some false) (fun k => by simp only [spec_l01Is.j0, if_true]) (Ev.now _)
  unfold spec_l01Is.f
  refine Ev.bindv (spec_l01Prime_eq p) ?_
  unfold ballB
  cases hp : primeB p with
  | false => simpa using hno
  | true =>
    have hp2 := prime_lo hp
    simp only [if_true, Bool.true_and]
    refine Ev.bindv (In_eq L (-6) 6) ?_
    by_cases hL : -6 ≤ L ∧ L ≤ 6
    · rw [decide_eq_true hL]; simp only [if_true, Bool.true_and]
      refine Ev.bindv (In_eq D 0 6) ?_
      by_cases hD : 0 ≤ D ∧ D ≤ 6
      · rw [decide_eq_true hD]; simp only [Bool.not_true, Bool.true_and]
        have hn := wid (n := L + D) (by omega) (by omega)
        by_cases h0 : L + D ≤ 0
        · rw [if_pos h0]
          refine Ev.step (f := fun _ => some (T == 0 && D == 0)) (fun k => ?_) (Ev.now _)
          simp only [spec_l01Is.j0]
          rw [if_neg (by decide), hn, if_pos h0]
          by_cases hT : T = 0
          · simp [hT]
          · simp [hT]
        · rw [if_neg h0]
          refine Ev.step (f := fun k => (spec_l01Power.f k p (L + D)).bind fun t => (spec_l01In.f T 0 (wrap64 (t - 1))).bind fun t2 => if t2 = true then (if D = 0 then some true else if p = 0 then none else some (Int.tmod T p != 0)) else some false) (fun k => by simp only [spec_l01Is.j0]; rw [if_neg (by decide), hn, if_neg h0]) ?_
          refine Ev.bind (spec_l01Power_ev p (L + D) (by omega)) ?_
          rw [powW_prime hp _ (by omega)]
          have hpp := ipow_pos (p := p) (by omega) (L + D).toNat
          have hpt := pow_le_top hp (L + D).toNat (by omega)
          rw [wid (n := p ^ (L + D).toNat - 1) (by omega) (by omega)]
          refine Ev.bindv (In_eq _ _ _) ?_
          rw [show decide (0 ≤ T ∧ T ≤ p ^ (L + D).toNat - 1) = decide (0 ≤ T ∧ T < p ^ (L + D).toNat) from decide_eq_decide.2 (by omega)]
          cases decide (0 ≤ T ∧ T < p ^ (L + D).toNat) with
          | false => simp only [Bool.false_eq_true, if_false, Bool.false_and]; exact Ev.now _
          | true =>
            simp only [if_true, Bool.true_and]
            by_cases hd : D = 0
            · simp only [hd, if_true]; simp; exact Ev.now _
            · rw [if_neg hd, if_neg (by omega), show (D == 0) = false from beq_eq_false_iff_ne.2 hd, Bool.false_or]
              exact Ev.now _
      · rw [decide_eq_false hD]; simpa using hno
    · rw [decide_eq_false hL]; simpa using hno

def codeB (p : Int) (l : List S25) : Bool := primeB p && l.all (fun b => ballB p b.f0 b.f1 b.f2)
theorem spec_l01Code_ev (p : Int) (l : List S25) (hl : l.length ≤ 4611686018427387904) : Ev (fun k => spec_l01Code.f k p l) (if codeB p l then 0 else 1) := by
  unfold spec_l01Code.f codeB
  refine Ev.bindv (spec_l01Prime_eq p) ?_
  cases hp : primeB p with
  | false => simp; exact Ev.now _
  | true =>
    simp only [if_true, Bool.true_and]
    rw [← all_range_getD l z25]
    refine all_ev' (fun k i => spec_l01Code.l0 k p l i) l.length (fun i => ballB p (l.getD i z25).f0 (l.getD i z25).f1 (l.getD i z25).f2) 0 1 ?_ ?_ ?_
    · intro i r hi hb hr
      refine Ev.step (f := fun k => (spec_l01Is.f k p (l.getD i z25).f0 (l.getD i z25).f1 (l.getD i z25).f2).bind fun t => if t = true then spec_l01Code.l0 k p l ((i : Int) + 1) else some 1) (fun k => ?_) ?_
      · simp only [spec_l01Code.l0]
        rw [if_pos (by omega), if_pos (by omega), wid (by omega) (by omega)]; rfl
      · refine Ev.bind (spec_l01Is_ev _ _ _ _) ?_
        rw [hb]; simpa using hr
    · intro i hi hb
      refine Ev.step (f := fun k => (spec_l01Is.f k p (l.getD i z25).f0 (l.getD i z25).f1 (l.getD i z25).f2).bind fun t => if t = true then spec_l01Code.l0 k p l ((i : Int) + 1) else some 1) (fun k => ?_) ?_
      · simp only [spec_l01Code.l0]
        rw [if_pos (by omega), if_pos (by omega), wid (by omega) (by omega)]; rfl
      · refine Ev.bind (spec_l01Is_ev _ _ _ _) ?_
        rw [hb]; simp; exact Ev.now _
    · exact Ev.step (f := fun _ => some 0) (fun k => by simp only [spec_l01Code.l0]; rw [if_neg (by omega)]) (Ev.now _)

theorem impl_isPrime_eq (p : Int) : impl_isPrime.f p = some (primeB p) := by
  unfold impl_isPrime.f primeB
  by_cases h2 : p = 2
  · simp [h2]
  · by_cases h3 : p = 3
    · simp [h3]
    · by_cases h5 : p = 5
      · simp [h5]
      · rw [if_neg h2, if_neg h3, if_neg h5, beq_eq_false_iff_ne.2 h2, beq_eq_false_iff_ne.2 h3, beq_eq_false_iff_ne.2 h5]; rfl

theorem impl_IsBall_ev (p L T D : Int) : Ev (fun k => impl_IsBall.f k p L T D) (ballB p L T D) := by
  have hno : Ev (fun k => impl_IsBall.j0 k p true L T D) false := Ev.step (f := fun _ => some false) (fun k => by simp only [impl_IsBall.j0, if_true]) (Ev.now _)
  unfold impl_IsBall.f
  refine Ev.bindv (impl_isPrime_eq p) ?_
  unfold ballB
  cases hp : primeB p with
  | false => simpa using hno
  | true =>
    have hp2 := prime_lo hp
    simp only [if_true, Bool.true_and]
    refine Ev.bindv (impl_isLevel_eq L) ?_
    by_cases hL : -6 ≤ L ∧ L ≤ 6
    · rw [decide_eq_true hL]; simp only [if_true, Bool.true_and]
      by_cases hD0 : D < 0
      · rw [decide_eq_false (show ¬ (0 ≤ D ∧ D ≤ 6) by omega)]; simp only [if_pos hD0, Bool.false_and]; exact hno
      simp only [if_neg hD0]
      by_cases hD : 0 ≤ D ∧ D ≤ 6
      · rw [decide_eq_true hD, decide_eq_false (show ¬ D > 6 by omega)]; simp only [Bool.true_and]
        have hn := wid (n := L + D) (by omega) (by omega)
        by_cases h0 : L + D ≤ 0
        · rw [if_pos h0]
          refine Ev.step (f := fun _ => some (T == 0 && D == 0)) (fun k => ?_) (Ev.now _)
          simp only [impl_IsBall.j0]
          rw [if_neg (by decide), hn, if_pos h0]
          by_cases hT : T = 0
          · simp [hT]
          · simp [hT]
        · rw [if_neg h0]
          by_cases hT0 : T ≥ 0
          · refine Ev.step (f := fun k => (impl_power.f k p (L + D)).bind fun t => if T < t then (if D = 0 then some true else if p = 0 then none else some (Int.tmod T p != 0)) else some false) (fun k => by simp only [impl_IsBall.j0]; rw [if_neg (by decide), hn, if_neg h0, if_pos hT0]) ?_
            refine Ev.bind (impl_power_ev p (L + D) (by omega)) ?_
            rw [powW_prime hp _ (by omega)]
            by_cases hT1 : T < p ^ (L + D).toNat
            · rw [if_pos hT1, decide_eq_true (show 0 ≤ T ∧ T < p ^ (L + D).toNat from ⟨hT0, hT1⟩), Bool.true_and]
              by_cases hd : D = 0
              · simp only [hd, if_true]; simp; exact Ev.now _
              · rw [if_neg hd, if_neg (by omega), show (D == 0) = false from beq_eq_false_iff_ne.2 hd, Bool.false_or]
                exact Ev.now _
            · rw [if_neg hT1, decide_eq_false (show ¬ (0 ≤ T ∧ T < p ^ (L + D).toNat) from fun h => hT1 h.2), Bool.false_and]
              exact Ev.now _
          · rw [decide_eq_false (show ¬ (0 ≤ T ∧ T < p ^ (L + D).toNat) from fun h => hT0 h.1), Bool.false_and]
            refine Ev.step (f := fun _ => some false) (fun k => ?_) (Ev.now _)
            simp only [impl_IsBall.j0]
            rw [if_neg (by decide), hn, if_neg h0, if_neg hT0]
      · rw [decide_eq_false hD, decide_eq_true (show D > 6 by omega)]; simpa using hno
    · rw [decide_eq_false hL]; simpa using hno

theorem ballB_prime {p L T D : Int} (h : ballB p L T D = true) : primeB p = true := by
  unfold ballB at h; rw [Bool.and_eq_true] at h; exact h.1
def stepsCodeW (p L T D : Int) (s : ByteArray) : Int := if ballB p L T D then (if stepsB p s then 0 else 6) else 1
theorem spec_l10Code_ev (p : Int) (s : ByteArray) (l : List S25) (hs : s.size ≤ 4611686018427387904) (hl : l.length ≤ 4611686018427387904) : Ev (fun k => spec_l10Code.f k p s l) (if codeB p l then (if stepsB p s then 0 else 6) else 1) := by
  unfold spec_l10Code.f
  refine Ev.bind (spec_l01Code_ev p l hl) ?_
  cases hc : codeB p l with
  | false => simp; exact Ev.now _
  | true =>
    have hp : primeB p = true := by unfold codeB at hc; rw [Bool.and_eq_true] at hc; exact hc.1
    simp only [if_true]
    refine Ev.bind (spec_l10Is_ev p s hp hs) ?_
    cases stepsB p s <;> (simp; exact Ev.now _)
theorem impl_stepsCode_ev (p L T D : Int) (s : ByteArray) (hs : s.size ≤ 4611686018427387904) : Ev (fun k => impl_stepsCode.f k p L T D s) (stepsCodeW p L T D s) := by
  unfold impl_stepsCode.f stepsCodeW
  refine Ev.bind (impl_IsBall_ev p L T D) ?_
  cases hb : ballB p L T D with
  | false => simp; exact Ev.now _
  | true =>
    simp only [if_true]
    refine Ev.bind (impl_isSteps_ev p s (ballB_prime hb) hs) ?_
    cases stepsB p s <;> (simp; exact Ev.now _)

def folL (p : Int) : List Int → S25 → Option S25
  | [], b => some b
  | c :: cs, b => if (letW p b c).2.2.2 = true then folL p cs ⟨(letW p b c).1, (letW p b c).2.1, (letW p b c).2.2.1⟩ else none
def ltrs (s : ByteArray) : List Int := (List.range s.size).map fun (j : Nat) => bt s (j : Int)
theorem ltrs_len (s : ByteArray) : (ltrs s).length = s.size := by simp [ltrs]
theorem ltrs_drop (s : ByteArray) (i : Nat) (h : i < s.size) : (ltrs s).drop i = bt s (i : Int) :: (ltrs s).drop (i + 1) := by
  have hl : i < (ltrs s).length := by rw [ltrs_len]; exact h
  rw [List.drop_eq_getElem_cons hl]
  congr 1
  simp [ltrs]
theorem folW_eq (p : Int) (s : ByteArray) (n : Nat) : ∀ (i : Nat) (b : S25), i + n = s.size → folW p s n i b = folL p ((ltrs s).drop i) b := by
  induction n with
  | zero =>
    intro i b h
    rw [List.drop_of_length_le (by rw [ltrs_len]; omega)]; rfl
  | succ n ih =>
    intro i b h
    rw [ltrs_drop s i (by omega)]
    unfold folW folL
    split
    · exact ih (i + 1) _ (by omega)
    · rfl
theorem bt_str (l : List Int) (h : ∀ c ∈ l, 0 ≤ c ∧ c ≤ 255) (i : Nat) (hi : i < l.length) : bt (strOfNums l) (i : Int) = l[i] := by
  have hc := h _ (List.getElem_mem hi)
  have hs : i < (strOfNums l).size := by rw [strOfNums_size]; exact hi
  unfold bt
  rw [dif_pos (show (i : Int).toNat < (strOfNums l).size from hs)]
  have e : (strOfNums l)[(i : Int).toNat]'hs = UInt8.ofNat (l[i]).toNat := by
    show (strOfNums l).data[i]'hs = _
    simp [strOfNums]
  rw [e, UInt8.toNat_ofNat']
  omega
theorem ltrs_str (l : List Int) (h : ∀ c ∈ l, 0 ≤ c ∧ c ≤ 255) : ltrs (strOfNums l) = l := by
  apply List.ext_getElem
  · rw [ltrs_len, strOfNums_size]
  · intro i h1 h2
    have := bt_str l h i h2
    simp only [ltrs, List.getElem_map, List.getElem_range]
    exact this
theorem folL_append (p : Int) (xs : List Int) : ∀ (ys : List Int) (b : S25), folL p (xs ++ ys) b = (folL p xs b).bind (folL p ys) := by
  induction xs with
  | nil => intro ys b; rfl
  | cons c xs ih =>
    intro ys b
    rw [List.cons_append]
    unfold folL
    split
    · exact ih ys _
    · rfl
theorem folL_ok {p : Int} (xs : List Int) : ∀ (b e : S25), okB p b → folL p xs b = some e → okB p e := by
  induction xs with
  | nil => intro b e hb h; simp only [folL, Option.some.injEq] at h; exact h ▸ hb
  | cons c xs ih =>
    intro b e hb h
    unfold folL at h
    split at h
    · rename_i hf; exact ih _ _ (letW_ok c hb hf) h
    · cases h
theorem down_up {p L T D c : Int} (h : ballB p L T D = true) (hL : L ≠ 6) : parW p (chW p L T D c).1 (chW p L T D c).2.1 (chW p L T D c).2.2.1 = (L, T, D, true) := by
  have hp := (ball_parts h).1
  have hl := (ball_parts h).2.1
  have e0 : chW p L T D c = ((chM p L T D c).1, (chM p L T D c).2.1, (chM p L T D c).2.2, true) := by unfold chW; rw [if_neg hL]
  rw [e0]
  have e1 : (chM p L T D c).1 = L + 1 := rfl
  have e2 : parM p (L + 1) (chM p L T D c).2.1 (chM p L T D c).2.2 = (L, T, D) := by
    unfold chM
    rw [parM_up hp (by omega), ← ofM_mod, Int.add_mul_emod_self_right, ofM_mod, ofM_mark h]
  unfold parW
  show (if L + 1 = -6 then _ else _) = _
  rw [if_neg (by omega)]
  show ((parM p (L + 1) (chM p L T D c).2.1 (chM p L T D c).2.2).1, (parM p (L + 1) (chM p L T D c).2.1 (chM p L T D c).2.2).2.1, (parM p (L + 1) (chM p L T D c).2.1 (chM p L T D c).2.2).2.2, true) = _
  rw [e2]
theorem fol_cancel {p d : Int} (hd : d ≠ 117) (ys cs : List Int) (b e : S25) (hb : okB p b) (h : folL p (ys ++ [d] ++ 117 :: cs) b = some e) : folL p (ys ++ cs) b = some e := by
  rw [List.append_assoc, folL_append] at h
  rw [folL_append]
  cases hm : folL p ys b with
  | none => rw [hm] at h; cases h
  | some m =>
    rw [hm] at h
    have hmo := folL_ok ys b m hb hm
    simp only [Option.bind_some] at h ⊢
    rw [List.singleton_append] at h
    unfold folL at h
    split at h
    · rename_i hf
      unfold folL at h
      split at h
      · have e1 : letW p m d = chW p m.f0 m.f1 m.f2 (d - 48) := by unfold letW; rw [if_neg hd]
        rw [e1] at hf h
        have hL : m.f0 ≠ 6 := fun h6 => by unfold chW at hf; rw [if_pos h6] at hf; cases hf
        have e2 := down_up (c := d - 48) hmo hL
        unfold letW at h
        simp only [if_true] at h
        rw [e2] at h
        exact h
      · cases h
    · cases h
def nrm : List Int → List Int → List Int
  | xs, [] => xs
  | xs, c :: cs => if c = 117 ∧ 0 < xs.length ∧ xs.getD (xs.length - 1) 0 ≠ 117 then nrm (xs.take (xs.length - 1)) cs else nrm (xs ++ [c]) cs
theorem nrm_fol {p : Int} (cs : List Int) : ∀ (xs : List Int) (b e : S25), okB p b → folL p (xs ++ cs) b = some e → folL p (nrm xs cs) b = some e := by
  induction cs with
  | nil => intro xs b e hb h; rw [List.append_nil] at h; exact h
  | cons c cs ih =>
    intro xs b e hb h
    unfold nrm
    split
    · rename_i hc
      obtain ⟨rfl, h0, h1⟩ := hc
      have e1 : xs = xs.take (xs.length - 1) ++ [xs.getD (xs.length - 1) 0] := by
        conv => lhs; rw [← List.take_append_drop (xs.length - 1) xs]
        congr 1
        rw [List.drop_eq_getElem_cons (show xs.length - 1 < xs.length by omega), List.drop_of_length_le (by omega), List.getD_eq_getElem?_getD, List.getElem?_eq_getElem (show xs.length - 1 < xs.length by omega)]
        rfl
      refine ih _ b e hb ?_
      rw [e1] at h
      exact fol_cancel h1 _ _ b e hb h
    · refine ih _ b e hb ?_
      rw [List.append_assoc]
      exact h
def goodN (xs : List Int) : Prop := ∀ i, i + 1 < xs.length → xs.getD (i + 1) 0 = 117 → xs.getD i 0 = 117
theorem nrm_good (cs : List Int) : ∀ xs, goodN xs → goodN (nrm xs cs) := by
  induction cs with
  | nil => intro xs h; exact h
  | cons c cs ih =>
    intro xs h
    unfold nrm
    split
    · refine ih _ (fun i hi hx => ?_)
      rw [List.length_take] at hi
      rw [List.getD_eq_getElem?_getD, List.getElem?_take, if_pos (by omega), ← List.getD_eq_getElem?_getD] at hx ⊢
      exact h i (by omega) hx
    · rename_i hc
      refine ih _ (fun i hi hx => ?_)
      rw [List.length_append, List.length_singleton] at hi
      rw [List.getD_eq_getElem?_getD, List.getElem?_append_left (show i < xs.length by omega), ← List.getD_eq_getElem?_getD]
      by_cases hl : i + 1 < xs.length
      · rw [List.getD_eq_getElem?_getD, List.getElem?_append_left hl, ← List.getD_eq_getElem?_getD] at hx
        exact h i hl hx
      · have hxl : xs.length = i + 1 := by omega
        rw [List.getD_eq_getElem?_getD, List.getElem?_append_right (by omega), show i + 1 - xs.length = 0 by omega] at hx
        have hx2 : c = 117 := hx
        have := Classical.byContradiction (p := xs.getD i 0 = 117) (fun hne => hc ⟨hx2, by omega, by rw [hxl]; exact hne⟩)
        exact this
theorem nrm_same (cs : List Int) : ∀ xs, goodN (xs ++ cs) → nrm xs cs = xs ++ cs := by
  induction cs with
  | nil => intro xs _; rw [List.append_nil]; rfl
  | cons c cs ih =>
    intro xs h
    unfold nrm
    rw [if_neg]
    · rw [ih _ (by rw [List.append_assoc]; exact h), List.append_assoc]; rfl
    · rintro ⟨rfl, h0, h1⟩
      apply h1
      have := h (xs.length - 1) (by rw [List.length_append, List.length_cons]; omega) (by
        rw [show xs.length - 1 + 1 = xs.length by omega, List.getD_eq_getElem?_getD, List.getElem?_append_right (by omega), Nat.sub_self]; rfl)
      rw [List.getD_eq_getElem?_getD, List.getElem?_append_left (by omega), ← List.getD_eq_getElem?_getD] at this
      exact this
theorem nrm_mem (P : Int → Prop) (cs : List Int) : ∀ xs, (∀ c ∈ xs, P c) → (∀ c ∈ cs, P c) → ∀ c ∈ nrm xs cs, P c := by
  induction cs with
  | nil => intro xs h _; exact h
  | cons c cs ih =>
    intro xs h h2
    unfold nrm
    split
    · exact ih _ (fun x hx => h x (List.mem_of_mem_take hx)) (fun x hx => h2 x (List.mem_cons_of_mem _ hx))
    · refine ih _ (fun x hx => ?_) (fun x hx => h2 x (List.mem_cons_of_mem _ hx))
      rcases List.mem_append.1 hx with hx | hx
      · exact h x hx
      · rw [List.mem_singleton.1 hx]; exact h2 c List.mem_cons_self
theorem nrm_len (cs : List Int) : ∀ xs : List Int, (nrm xs cs).length ≤ xs.length + cs.length := by
  induction cs with
  | nil => intro xs; exact Nat.le_refl _
  | cons c cs ih =>
    intro xs
    unfold nrm
    split
    · have := ih (xs.take (xs.length - 1)); rw [List.length_take] at this; rw [List.length_cons]; omega
    · have := ih (xs ++ [c]); rw [List.length_append, List.length_singleton] at this; rw [List.length_cons]; omega
theorem steps_ltrs {p : Int} {s : ByteArray} (h : stepsB p s = true) : s.size ≤ 40 ∧ ∀ c ∈ ltrs s, stepB p c = true := by
  unfold stepsB at h
  rw [Bool.and_eq_true, decide_eq_true_eq, List.all_eq_true] at h
  refine ⟨h.1, fun c hc => ?_⟩
  unfold ltrs at hc
  obtain ⟨j, hj, rfl⟩ := List.mem_map.1 hc
  exact h.2 j hj
theorem steps_str {p : Int} {l : List Int} (hp : primeB p = true) (hl : l.length ≤ 40) (h : ∀ c ∈ l, stepB p c = true) : stepsB p (strOfNums l) = true ∧ ltrs (strOfNums l) = l := by
  have e := ltrs_str l (fun c hc => by have := stepB_bd hp (h c hc); omega)
  refine ⟨?_, e⟩
  unfold stepsB
  rw [Bool.and_eq_true, decide_eq_true_eq, List.all_eq_true]
  refine ⟨by rw [strOfNums_size]; exact hl, fun i hi => h _ ?_⟩
  have : bt (strOfNums l) (i : Int) ∈ ltrs (strOfNums l) := List.mem_map.2 ⟨i, hi, rfl⟩
  rw [e] at this
  exact this
theorem let_up {p X n : Int} (hp : primeB p = true) (hn : -6 ≤ n ∧ n < 6) : letW p (upB p X (n + 1)) 117 = ((upB p X n).f0, (upB p X n).f1, (upB p X n).f2, true) := by
  unfold letW
  rw [if_pos rfl]
  unfold parW
  show (if n + 1 = -6 then _ else _) = _
  rw [if_neg (by omega)]
  show ((parM p (n + 1) (ofM p (n + 1) X).2.1 (ofM p (n + 1) X).2.2).1, (parM p (n + 1) (ofM p (n + 1) X).2.1 (ofM p (n + 1) X).2.2).2.1, (parM p (n + 1) (ofM p (n + 1) X).2.1 (ofM p (n + 1) X).2.2).2.2, true) = _
  rw [parM_up hp hn]
  rfl
theorem let_down {p X n m : Int} (hn : -6 ≤ n ∧ n < 6) (h0 : 0 ≤ m ∧ m < p) (hp : primeB p = true) (h : chM p n (ofM p n X).2.1 (ofM p n X).2.2 m = ofM p (n + 1) X) : letW p (upB p X n) (48 + m) = ((upB p X (n + 1)).f0, (upB p X (n + 1)).f1, (upB p X (n + 1)).f2, true) := by
  have := prime_hi hp
  unfold letW
  rw [if_neg (by omega), show 48 + m - 48 = m by omega]
  unfold chW
  show (if n = 6 then _ else _) = _
  rw [if_neg (by omega)]
  show ((chM p n (ofM p n X).2.1 (ofM p n X).2.2 m).1, (chM p n (ofM p n X).2.1 (ofM p n X).2.2 m).2.1, (chM p n (ofM p n X).2.1 (ofM p n X).2.2 m).2.2, true) = _
  rw [h]
  rfl
theorem fol_cons {p c : Int} {cs : List Int} {b d : S25} (h : letW p b c = (d.f0, d.f1, d.f2, true)) : folL p (c :: cs) b = folL p cs d := by
  show (if (letW p b c).2.2.2 = true then folL p cs ⟨(letW p b c).1, (letW p b c).2.1, (letW p b c).2.2.1⟩ else none) = _
  rw [h]
  rfl
theorem upB_self {p L T D : Int} (h : ballB p L T D = true) : upB p (markOf p T D) L = ⟨L, T, D⟩ := by unfold upB; rw [ofM_mark h]
theorem digit_step {p m : Int} (h : 0 ≤ m ∧ m < p) : stepB p (48 + m) = true := by
  unfold stepB
  rw [Bool.or_eq_true, decide_eq_true_eq]
  right; omega

def backL (p : Int) : List S25 → List Int → Prop
  | [_], [] => True
  | x :: y :: zs, c :: cs => Ev (fun k => impl_letterTo.f k p x.f0 x.f1 x.f2 y.f0 y.f1 y.f2) c ∧ ((0 ≤ c ∧ c ≤ 255) ∧ stepB p c = true ∧ letW p x c = (y.f0, y.f1, y.f2, true)) ∧ backL p (y :: zs) cs
  | _, _ => False
theorem backL_len {p : Int} : ∀ (l : List S25) (cs : List Int), backL p l cs → l.length = cs.length + 1 := by
  intro l
  induction l with
  | nil => intro cs h; cases cs <;> cases h
  | cons x l ih =>
    intro cs h
    cases l with
    | nil => cases cs with
      | nil => rfl
      | cons c cs => cases h
    | cons y zs => cases cs with
      | nil => cases h
      | cons c cs => simp only [List.length_cons]; have := ih cs h.2.2; simp only [List.length_cons] at this; omega
theorem backL_at {p : Int} : ∀ (l : List S25) (cs : List Int), backL p l cs → ∃ K, ∀ k, K ≤ k → ∀ i, i < cs.length → impl_ReverseSteps.at_ k p l i = some (cs.getD i 0) ∧ 0 ≤ cs.getD i 0 ∧ cs.getD i 0 ≤ 255 := by
  intro l
  induction l with
  | nil => intro cs h; cases cs <;> cases h
  | cons x l ih =>
    intro cs h
    cases l with
    | nil => cases cs with
      | nil => exact ⟨0, fun _ _ i hi => absurd hi (Nat.not_lt_zero i)⟩
      | cons c cs => cases h
    | cons y zs => cases cs with
      | nil => cases h
      | cons c cs =>
        obtain ⟨K, hK⟩ := ih cs h.2.2
        obtain ⟨⟨K2, hK2⟩, hc, _⟩ := h
        refine ⟨max K K2, fun k hk i hi => ?_⟩
        cases i with
        | zero => exact ⟨hK2 k (by omega), hc.1⟩
        | succ i => exact hK k (by omega) i (by simpa using hi)
theorem back_fol {p : Int} : ∀ (l : List S25) (cs : List Int), backL p l cs → (∀ c ∈ cs, stepB p c = true) ∧ ∀ e, l.head? = some e → folL p cs e = l.getLast? := by
  intro l
  induction l with
  | nil => intro cs h; cases cs <;> cases h
  | cons x l ih =>
    intro cs h
    cases l with
    | nil => cases cs with
      | nil => exact ⟨fun c hc => absurd hc List.not_mem_nil, fun e he => he.symm⟩
      | cons c cs => cases h
    | cons y zs => cases cs with
      | nil => cases h
      | cons c cs =>
        obtain ⟨h1, h2⟩ := ih cs h.2.2
        refine ⟨fun c' hc => ?_, fun e he => ?_⟩
        · rcases List.mem_cons.1 hc with rfl | hc
          · exact h.2.1.2.1
          · exact h1 _ hc
        · obtain rfl : x = e := by simpa using he
          rw [fol_cons h.2.1.2.2, h2 y rfl, List.getLast?_cons_cons]
theorem rev_ok {p : Int} {l : List S25} {cs : List Int} (h : backL p l.reverse cs) (hl : cs.length < 1000) : ∃ K, ∀ k, K ≤ k → impl_ReverseSteps.okB k p l = true ∧ (⟨((List.range (l.length - 1)).map (impl_ReverseSteps.byte k p l)).toArray⟩ : ByteArray) = strOfNums cs := by
  obtain ⟨K, hK⟩ := backL_at _ _ h
  have hlen := backL_len _ _ h
  rw [List.length_reverse] at hlen
  refine ⟨K, fun k hk => ⟨?_, ?_⟩⟩
  · unfold impl_ReverseSteps.okB
    rw [Bool.and_eq_true, decide_eq_true_eq, List.all_eq_true]
    refine ⟨by omega, fun i hi => ?_⟩
    have h1 := hK k hk i (by have := List.mem_range.1 hi; omega)
    rw [h1.1]
    exact decide_eq_true h1.2
  · unfold strOfNums
    congr 2
    apply List.ext_getElem
    · simp; omega
    · intro i h1 h2
      simp only [List.length_map] at h2
      simp only [List.getElem_map, List.getElem_range]
      unfold impl_ReverseSteps.byte
      rw [(hK k hk i h2).1]
      show UInt8.ofNat (cs.getD i 0).toNat = _
      rw [List.getD_eq_getElem?_getD, List.getElem?_eq_getElem h2]
      rfl
theorem str_cons (c : Int) (cs : List Int) : strOfNums [c] ++ strOfNums cs = strOfNums (c :: cs) := by
  apply ByteArray.ext
  rw [ByteArray.data_append]
  apply Array.toList_inj.1
  rw [Array.toList_append]
  rfl
theorem back_child {p L T D c : Int} (hL : L ≠ 6) : Ev (fun k => impl_letterTo.f k p (chW p L T D c).1 (chW p L T D c).2.1 (chW p L T D c).2.2.1 L T D) 117 := by
  unfold impl_letterTo.f chW
  simp only [if_neg hL]
  have : (chM p L T D c).1 = L + 1 := rfl
  simp only [this, if_pos (show L < L + 1 by omega)]
  exact Ev.now _
theorem back_parent {p L T D : Int} (h : ballB p L T D = true) (hL : L ≠ -6) : ∃ m, (0 ≤ m ∧ m < p) ∧ Ev (fun k => spec_l10Digit.f k p L T D) m ∧ Ev (fun k => impl_letterTo.f k p (parW p L T D).1 (parW p L T D).2.1 (parW p L T D).2.2.1 L T D) (48 + m) ∧ letW p ⟨(parW p L T D).1, (parW p L T D).2.1, (parW p L T D).2.2.1⟩ (48 + m) = (L, T, D, true) := by
  have hp := (ball_parts h).1
  have hl := (ball_parts h).2.1
  obtain ⟨m, m1, m2, m3, m4⟩ := digit_ev (X := markOf p T D) (n := L - 1) hp (by omega)
  have m5 := let_down (X := markOf p T D) (n := L - 1) (by omega) m1 hp m4
  have e : ofM p (L - 1 + 1) (markOf p T D) = (L, T, D) := by rw [show L - 1 + 1 = L by omega]; exact ofM_mark h
  have e2 : upB p (markOf p T D) (L - 1 + 1) = ⟨L, T, D⟩ := by unfold upB; rw [e]
  rw [e, show L - 1 + 1 = L by omega] at m2
  rw [e2] at m3 m5
  suffices hh : _ ∧ _ from ⟨m, m1, m2, hh⟩
  have e3 : parW p L T D = ((upB p (markOf p T D) (L - 1)).f0, (upB p (markOf p T D) (L - 1)).f1, (upB p (markOf p T D) (L - 1)).f2, true) := by
    unfold parW parM upB; rw [if_neg hL]
  rw [e3]
  exact ⟨m3, m5⟩
theorem rev_walk {p : Int} (s : ByteArray) (hp : primeB p = true) (hs : s.size ≤ 40) (hst : ∀ i, i < s.size → stepB p (bt s (i : Int)) = true) (n : Nat) : ∀ (i : Nat) (b : S25) (xs : List S25) (cs : List Int), i + n = s.size → okB p b → xs.length = i → cs.length = i → backL p (b :: xs.reverse) cs →
    (folL p ((ltrs s).drop i) b = none ∧ Ev (fun k => impl_follow.l0 k p s (xs ++ [b]) s.size i b.f0 b.f1 b.f2) ([], false) ∧ Ev (fun k => spec_ReverseSteps.l0 k p s (strOfNums cs) i b.f0 b.f1 b.f2) (⟨#[]⟩, 3)) ∨
    ∃ (ys : List S25) (ds : List Int), (folL p ((ltrs s).drop i) b = ys.reverse.head? ∧ ys.head? = (xs ++ [b]).head? ∧ ds.length = s.size) ∧ Ev (fun k => impl_follow.l0 k p s (xs ++ [b]) s.size i b.f0 b.f1 b.f2) (ys, true) ∧ Ev (fun k => spec_ReverseSteps.l0 k p s (strOfNums cs) i b.f0 b.f1 b.f2) (strOfNums ds, 0) ∧ backL p ys.reverse ds := by
  induction n with
  | zero =>
    intro i b xs cs hi hb hl hc hx
    right
    refine ⟨xs ++ [b], cs, ⟨?_, rfl, by omega⟩, ?_, ?_, ?_⟩
    · rw [List.drop_of_length_le (by rw [ltrs_len]; omega), List.reverse_append]; rfl
    · exact Ev.step (f := fun _ => some (xs ++ [b], true)) (fun k => by simp only [impl_follow.l0]; rw [if_neg (by omega)]) (Ev.now _)
    · exact Ev.step (f := fun _ => some (strOfNums cs, 0)) (fun k => by simp only [spec_ReverseSteps.l0]; rw [if_neg (by omega)]) (Ev.now _)
    · simpa using hx
  | succ n ih =>
    intro i b xs cs hi hb hl hc hx
    have hlt : i < s.size := by omega
    have hcb := stepB_bd hp (hst i hlt)
    have hp7 := prime_hi hp
    have hw : wrap64 ((i : Int) + 1) = ((i + 1 : Nat) : Int) := by rw [wid (by omega) (by omega)]; rfl
    have step := spec_l10Step_ev hb (c := bt s (i : Int)) ⟨bt_lo _ _, bt_hi _ _⟩
    have hsz : (strOfNums cs).size = cs.length := strOfNums_size cs
    have hd := ltrs_drop s i hlt
    by_cases h117 : bt s (i : Int) = 117
    · have stp := impl_neighbour_ev 0 hb (by omega)
      rw [if_pos rfl] at stp
      rw [if_pos h117] at step
      by_cases hL : b.f0 = -6
      · left
        have e : parW p b.f0 b.f1 b.f2 = (0, 0, 0, false) := by unfold parW; rw [if_pos hL]
        rw [e] at stp step
        refine ⟨?_, ?_, ?_⟩
        · rw [hd]; unfold folL letW; rw [if_pos h117, e]; rfl
        · refine Ev.up ?_
          simp only [impl_follow.l0]
          simp only [if_pos (show (i : Int) < (s.size : Int) by omega), if_pos (show (0 : Int) ≤ (i : Int) by omega), if_pos h117]
          refine Ev.bind stp ?_
          exact Ev.now _
        · refine Ev.up ?_
          simp only [spec_ReverseSteps.l0]
          simp only [if_pos (show (i : Int) < (s.size : Int) by omega), if_pos (show (0 : Int) ≤ (i : Int) by omega)]
          refine Ev.bind step ?_
          exact Ev.now _
      · obtain ⟨m, m1, m2, m3, m5⟩ := back_parent hb hL
        have hf : (parW p b.f0 b.f1 b.f2).2.2.2 = true := by unfold parW; rw [if_neg hL]
        have hb2 : okB p ⟨(parW p b.f0 b.f1 b.f2).1, (parW p b.f0 b.f1 b.f2).2.1, (parW p b.f0 b.f1 b.f2).2.2.1⟩ := by
          have := letW_ok (bt s (i : Int)) hb (by unfold letW; rw [if_pos h117]; exact hf)
          unfold letW at this; rw [if_pos h117] at this; exact this
        have hd2 : folL p ((ltrs s).drop i) b = folL p ((ltrs s).drop (i + 1)) ⟨(parW p b.f0 b.f1 b.f2).1, (parW p b.f0 b.f1 b.f2).2.1, (parW p b.f0 b.f1 b.f2).2.2.1⟩ := by
          rw [hd]; conv => lhs; unfold folL letW
          simp only [if_pos h117, hf, if_true]
        generalize hr : parW p b.f0 b.f1 b.f2 = r at *
        have nxt := ih (i + 1) ⟨r.1, r.2.1, r.2.2.1⟩ (xs ++ [b]) ((48 + m) :: cs) (by omega) hb2 (by simp [hl]) (by simp [hc]) (by
          rw [List.reverse_append]
          exact ⟨m3, ⟨by omega, digit_step m1, m5⟩, hx⟩)
        have g1 : ∀ {z : List S25 × Bool}, Ev (fun k => impl_follow.l0 k p s (xs ++ [b] ++ [⟨r.1, r.2.1, r.2.2.1⟩]) s.size ((i + 1 : Nat) : Int) r.1 r.2.1 r.2.2.1) z → Ev (fun k => impl_follow.l0 k p s (xs ++ [b]) s.size i b.f0 b.f1 b.f2) z := fun {z} hz => by
          refine Ev.up ?_
          simp only [impl_follow.l0]
          simp only [if_pos (show (i : Int) < (s.size : Int) by omega), if_pos (show (0 : Int) ≤ (i : Int) by omega), if_pos h117]
          refine Ev.bind stp ?_
          simp only [if_pos hf, if_pos (show (xs ++ [b]).length < 5864062014805 by simp; omega), hw]
          exact hz
        have g2 : ∀ {z : ByteArray × Int}, Ev (fun k => spec_ReverseSteps.l0 k p s (strOfNums ((48 + m) :: cs)) ((i + 1 : Nat) : Int) r.1 r.2.1 r.2.2.1) z → Ev (fun k => spec_ReverseSteps.l0 k p s (strOfNums cs) i b.f0 b.f1 b.f2) z := fun {z} hz => by
          refine Ev.up ?_
          simp only [spec_ReverseSteps.l0]
          simp only [if_pos (show (i : Int) < (s.size : Int) by omega), if_pos (show (0 : Int) ≤ (i : Int) by omega)]
          refine Ev.bind step ?_
          simp only [if_pos hf, if_pos h117]
          refine Ev.bind m2 ?_
          rw [wid (n := 48 + m) (by omega) (by omega), show (48 + m) % 256 = 48 + m by omega]
          simp only [Option.bind_some, strOfNums_size, if_pos (show [48 + m].length + cs.length ≤ 9223372036854775807 by simp; omega), hw, str_cons]
          exact hz
        rcases nxt with ⟨n0, n1, n2⟩ | ⟨ys, ds, ⟨o1, o2, o3⟩, n1, n2, n3⟩
        · exact Or.inl ⟨hd2.trans n0, g1 n1, g2 n2⟩
        · exact Or.inr ⟨ys, ds, ⟨hd2.trans o1, o2.trans (by cases xs <;> rfl), o3⟩, g1 n1, g2 n2, n3⟩
    · have stp := impl_neighbour_ev (bt s (i : Int) - 48 + 1) hb (by omega)
      rw [if_neg (by omega), show bt s (i : Int) - 48 + 1 - 1 = bt s (i : Int) - 48 from by omega] at stp
      have em : (bt s (i : Int) - 48) % 256 = bt s (i : Int) - 48 := by omega
      rw [if_neg h117] at step
      by_cases hL : b.f0 = 6
      · left
        have e : chW p b.f0 b.f1 b.f2 (bt s (i : Int) - 48) = (0, 0, 0, false) := by unfold chW; rw [if_pos hL]
        rw [e] at stp step
        refine ⟨?_, ?_, ?_⟩
        · rw [hd]; unfold folL letW; rw [if_neg h117, e]; rfl
        · refine Ev.up ?_
          simp only [impl_follow.l0]
          simp only [if_pos (show (i : Int) < (s.size : Int) by omega), if_pos (show (0 : Int) ≤ (i : Int) by omega), if_neg h117, em]
          refine Ev.bind stp ?_
          exact Ev.now _
        · refine Ev.up ?_
          simp only [spec_ReverseSteps.l0]
          simp only [if_pos (show (i : Int) < (s.size : Int) by omega), if_pos (show (0 : Int) ≤ (i : Int) by omega)]
          refine Ev.bind step ?_
          exact Ev.now _
      · have m3 := back_child (p := p) (T := b.f1) (D := b.f2) (c := bt s (i : Int) - 48) hL
        have m5 := down_up (c := bt s (i : Int) - 48) hb hL
        have hf : (chW p b.f0 b.f1 b.f2 (bt s (i : Int) - 48)).2.2.2 = true := by unfold chW; rw [if_neg hL]
        have hb2 : okB p ⟨(chW p b.f0 b.f1 b.f2 (bt s (i : Int) - 48)).1, (chW p b.f0 b.f1 b.f2 (bt s (i : Int) - 48)).2.1, (chW p b.f0 b.f1 b.f2 (bt s (i : Int) - 48)).2.2.1⟩ := by
          have := letW_ok (bt s (i : Int)) hb (by unfold letW; rw [if_neg h117]; exact hf)
          unfold letW at this; rw [if_neg h117] at this; exact this
        have hd2 : folL p ((ltrs s).drop i) b = folL p ((ltrs s).drop (i + 1)) ⟨(chW p b.f0 b.f1 b.f2 (bt s (i : Int) - 48)).1, (chW p b.f0 b.f1 b.f2 (bt s (i : Int) - 48)).2.1, (chW p b.f0 b.f1 b.f2 (bt s (i : Int) - 48)).2.2.1⟩ := by
          rw [hd]; conv => lhs; unfold folL letW
          simp only [if_neg h117, hf, if_true]
        generalize hr : chW p b.f0 b.f1 b.f2 (bt s (i : Int) - 48) = r at *
        have nxt := ih (i + 1) ⟨r.1, r.2.1, r.2.2.1⟩ (xs ++ [b]) (117 :: cs) (by omega) hb2 (by simp [hl]) (by simp [hc]) (by
          rw [List.reverse_append]
          exact ⟨m3, ⟨by omega, rfl, by unfold letW; rw [if_pos rfl]; exact m5⟩, hx⟩)
        have g1 : ∀ {z : List S25 × Bool}, Ev (fun k => impl_follow.l0 k p s (xs ++ [b] ++ [⟨r.1, r.2.1, r.2.2.1⟩]) s.size ((i + 1 : Nat) : Int) r.1 r.2.1 r.2.2.1) z → Ev (fun k => impl_follow.l0 k p s (xs ++ [b]) s.size i b.f0 b.f1 b.f2) z := fun {z} hz => by
          refine Ev.up ?_
          simp only [impl_follow.l0]
          simp only [if_pos (show (i : Int) < (s.size : Int) by omega), if_pos (show (0 : Int) ≤ (i : Int) by omega), if_neg h117, em]
          refine Ev.bind stp ?_
          simp only [if_pos hf, if_pos (show (xs ++ [b]).length < 5864062014805 by simp; omega), hw]
          exact hz
        have g2 : ∀ {z : ByteArray × Int}, Ev (fun k => spec_ReverseSteps.l0 k p s (strOfNums (117 :: cs)) ((i + 1 : Nat) : Int) r.1 r.2.1 r.2.2.1) z → Ev (fun k => spec_ReverseSteps.l0 k p s (strOfNums cs) i b.f0 b.f1 b.f2) z := fun {z} hz => by
          refine Ev.up ?_
          simp only [spec_ReverseSteps.l0]
          simp only [if_pos (show (i : Int) < (s.size : Int) by omega), if_pos (show (0 : Int) ≤ (i : Int) by omega)]
          refine Ev.bind step ?_
          have e7 : (⟨#[117]⟩ : ByteArray) = strOfNums [117] := rfl
          simp only [if_pos hf, if_neg h117, strOfNums_size, if_pos (show 1 + cs.length ≤ 9223372036854775807 by omega), hw, e7, str_cons]
          exact hz
        rcases nxt with ⟨n0, n1, n2⟩ | ⟨ys, ds, ⟨o1, o2, o3⟩, n1, n2, n3⟩
        · exact Or.inl ⟨hd2.trans n0, g1 n1, g2 n2⟩
        · exact Or.inr ⟨ys, ds, ⟨hd2.trans o1, o2.trans (by cases xs <;> rfl), o3⟩, g1 n1, g2 n2, n3⟩

section
variable {p L T D L' T' D' : Int} (h : ballB p L T D = true) (h' : ballB p L' T' D' = true) (J : Int) (na nb : Nat) (hJ : -6 ≤ J) (hna : L = J + na) (hnb : L' = J + nb) (hsame : ofM p J (markOf p T D) = ofM p J (markOf p T' D'))
include h h' hJ hna hnb hsame in
theorem wayF_l1 (d : Nat) : ∀ (j : Nat) (acc : List Int), j + d = nb → acc.length ≤ na + j → ∃ ds, (ds.length = d ∧ (∀ c ∈ ds, stepB p c = true) ∧ folL p ds (upB p (markOf p T' D') (J + j)) = some ⟨L', T', D'⟩) ∧ Ev (fun k => spec_l10Way.l1 k p acc (J + 1 + j) L' T' D') (strOfNums (acc ++ ds), true) ∧
    Ev (fun k => impl_wayWord.l0 k p acc ((List.range (na + 1 + nb)).map (wayAt p (markOf p T D) (markOf p T' D') J na)) ((na + 1 + j : Nat) : Int)) (strOfNums (acc ++ ds)) := by
  have hl := (ball_parts h).2.1
  have hl' := (ball_parts h').2.1
  have hp := (ball_parts h').1
  have hp7 := prime_hi hp
  induction d with
  | zero =>
    intro j acc hj ha
    obtain rfl : j = nb := by omega
    refine ⟨[], ⟨rfl, fun c hc => absurd hc List.not_mem_nil, ?_⟩, ?_, ?_⟩
    · rw [← hnb, upB_self h']; rfl
    all_goals rw [List.append_nil]
    · refine Ev.up ?_
      simp only [spec_l10Way.l1, if_neg (show ¬ J + 1 + (j : Int) ≤ L' by omega)]
      exact Ev.now _
    · refine Ev.up ?_
      simp only [impl_wayWord.l0, List.length_map, List.length_range, if_neg (show ¬ ((na + 1 + j : Nat) : Int) < ((na + 1 + j : Nat) : Int) by omega)]
      exact Ev.now _
  | succ d ih =>
    intro j acc hj ha
    obtain ⟨m, m1, m2, m3, m4⟩ := digit_ev (X := markOf p T' D') (n := J + j) hp (by omega)
    obtain ⟨r, ⟨q1, q2, q3⟩, r1, r2⟩ := ih (j + 1) (acc ++ [48 + m]) (by omega) (by simp; omega)
    rw [List.append_assoc, List.singleton_append] at r1 r2
    refine ⟨(48 + m) :: r, ⟨by rw [List.length_cons, q1], fun c hc => ?_, ?_⟩, ?_, ?_⟩
    · rcases List.mem_cons.1 hc with rfl | hc
      · exact digit_step m1
      · exact q2 c hc
    · rw [fol_cons (let_down (by omega) m1 hp m4), show J + (j : Int) + 1 = J + ((j + 1 : Nat) : Int) by omega]; exact q3
    · refine Ev.up ?_
      simp only [spec_l10Way.l1, if_pos (show J + 1 + (j : Int) ≤ L' by omega)]
      refine Ev.bind (spec_l02Up_ev h' (show -6 ≤ J + 1 + (j : Int) ∧ J + 1 + (j : Int) ≤ 6 by omega)) ?_
      simp only [if_true]
      rw [show J + (j : Int) + 1 = J + 1 + j by omega] at m2
      refine Ev.bind m2 ?_
      rw [wid (n := 48 + m) (by omega) (by omega), wid (n := J + 1 + (j : Int) + 1) (by omega) (by omega), show (48 + m) % 256 = 48 + m by omega]
      simp only [if_pos (show acc.length < 140737488355328 by omega)]
      rw [show J + 1 + ((j + 1 : Nat) : Int) = J + 1 + (j : Int) + 1 by omega] at r1
      exact r1
    · refine Ev.up ?_
      simp only [impl_wayWord.l0]
      rw [wid (n := ((na + 1 + j : Nat) : Int) - 1) (by omega) (by omega), wid (n := ((na + 1 + j : Nat) : Int) + 1) (by omega) (by omega), show ((na + 1 + j : Nat) : Int) - 1 = ((na + j : Nat) : Int) by omega]
      simp only [wayAt_rd _ _ _ _ _ _ _ (show na + 1 + j < na + 1 + nb by omega), wayAt_rd _ _ _ _ _ _ _ (show na + j < na + 1 + nb by omega)]
      simp only [List.length_map, List.length_range, if_pos (show ((na + 1 + j : Nat) : Int) < ((na + 1 + nb : Nat) : Int) by omega), if_pos (show (0 : Int) ≤ ((na + j : Nat) : Int) by omega), if_pos (show ((na + j : Nat) : Int) < ((na + 1 + nb : Nat) : Int) by omega), if_pos (show (0 : Int) ≤ ((na + 1 + j : Nat) : Int) by omega)]
      have e1 : wayAt p (markOf p T D) (markOf p T' D') J na (na + j) = upB p (markOf p T' D') (J + j) := by
        unfold wayAt; rw [if_neg (by omega), show J + ((na + j - na : Nat) : Int) = J + j by omega]
      have e2 : wayAt p (markOf p T D) (markOf p T' D') J na (na + 1 + j) = upB p (markOf p T' D') (J + j + 1) := by
        unfold wayAt; rw [if_neg (by omega), show J + ((na + 1 + j - na : Nat) : Int) = J + j + 1 by omega]
      rw [e1, e2]
      refine Ev.bind m3 ?_
      simp only [if_pos (show acc.length < 140737488355328 by omega)]
      rw [show ((na + 1 + j : Nat) : Int) + 1 = ((na + 1 + (j + 1) : Nat) : Int) by omega]
      exact r2
include h h' hJ hna hnb hsame in
theorem wayF_l0 (d : Nat) : ∀ (i : Nat) (acc : List Int), i + d = na → acc.length ≤ i → ∃ ds, (ds.length = d + nb ∧ (∀ c ∈ ds, stepB p c = true) ∧ folL p ds (upB p (markOf p T D) (L - i)) = some ⟨L', T', D'⟩) ∧ Ev (fun k => spec_l10Way.l0 k p J acc (L - i) L' T' D') (strOfNums (acc ++ ds), true) ∧
    Ev (fun k => impl_wayWord.l0 k p acc ((List.range (na + 1 + nb)).map (wayAt p (markOf p T D) (markOf p T' D') J na)) ((1 + i : Nat) : Int)) (strOfNums (acc ++ ds)) := by
  have hl := (ball_parts h).2.1
  have hl' := (ball_parts h').2.1
  induction d with
  | zero =>
    intro i acc hi ha
    obtain rfl : i = na := by omega
    obtain ⟨r, ⟨q1, q2, q3⟩, r1, r2⟩ := wayF_l1 h h' J i nb hJ hna hnb hsame nb 0 acc (by omega) (by omega)
    refine ⟨r, ⟨by omega, q2, ?_⟩, ?_, ?_⟩
    · rw [show L - (i : Int) = J by omega]
      have e : upB p (markOf p T D) J = upB p (markOf p T' D') J := by unfold upB; rw [hsame]
      rw [e]
      simpa using q3
    · refine Ev.up ?_
      simp only [spec_l10Way.l0, if_neg (show ¬ L - (i : Int) > J by omega)]
      rw [wid (n := J + 1) (by omega) (by omega)]
      simpa using r1
    · rw [show ((1 + i : Nat) : Int) = ((i + 1 + 0 : Nat) : Int) by omega]; exact r2
  | succ d ih =>
    intro i acc hi ha
    obtain ⟨r, ⟨q1, q2, q3⟩, r1, r2⟩ := ih (i + 1) (acc ++ [117]) (by omega) (by simp; omega)
    rw [List.append_assoc, List.singleton_append] at r1 r2
    refine ⟨117 :: r, ⟨by rw [List.length_cons, q1]; omega, fun c hc => ?_, ?_⟩, ?_, ?_⟩
    · rcases List.mem_cons.1 hc with rfl | hc
      · rfl
      · exact q2 c hc
    · have e := let_up (X := markOf p T D) (n := L - ((i + 1 : Nat) : Int)) (ball_parts h).1 (by omega)
      rw [show L - ((i + 1 : Nat) : Int) + 1 = L - (i : Int) by omega] at e
      rw [fol_cons e]; exact q3
    · refine Ev.up ?_
      simp only [spec_l10Way.l0, if_pos (show L - (i : Int) > J by omega), if_pos (show acc.length < 140737488355328 by omega)]
      rw [wid (n := L - (i : Int) - 1) (by omega) (by omega), show L - (i : Int) - 1 = L - ((i + 1 : Nat) : Int) by omega]
      exact r1
    · refine Ev.up ?_
      simp only [impl_wayWord.l0]
      rw [wid (n := ((1 + i : Nat) : Int) - 1) (by omega) (by omega), wid (n := ((1 + i : Nat) : Int) + 1) (by omega) (by omega), show ((1 + i : Nat) : Int) - 1 = (i : Int) by omega]
      simp only [wayAt_rd _ _ _ _ _ _ _ (show 1 + i < na + 1 + nb by omega), wayAt_rd _ _ _ _ _ _ _ (show i < na + 1 + nb by omega)]
      simp only [List.length_map, List.length_range, if_pos (show ((1 + i : Nat) : Int) < ((na + 1 + nb : Nat) : Int) by omega), if_pos (show (0 : Int) ≤ (i : Int) by omega), if_pos (show (i : Int) < ((na + 1 + nb : Nat) : Int) by omega), if_pos (show (0 : Int) ≤ ((1 + i : Nat) : Int) by omega)]
      have e1 : (wayAt p (markOf p T D) (markOf p T' D') J na i).f0 = J + na - i := by
        unfold wayAt; rw [if_pos (by omega)]; rfl
      have e2 : (wayAt p (markOf p T D) (markOf p T' D') J na (1 + i)).f0 = J + na - i - 1 := by
        unfold wayAt
        by_cases hlt : 1 + i < na
        · rw [if_pos hlt]; show J + (na : Int) - ((1 + i : Nat) : Int) = _; omega
        · rw [if_neg hlt]; show J + ((1 + i - na : Nat) : Int) = _; omega
      refine Ev.bind (a := 117) ?_ ?_
      · unfold impl_letterTo.f
        rw [e1, e2]
        simp only [if_pos (show J + (na : Int) - (i : Int) - 1 < J + (na : Int) - (i : Int) by omega)]
        exact Ev.now _
      · simp only [if_pos (show acc.length < 140737488355328 by omega)]
        rw [show ((1 + i : Nat) : Int) + 1 = ((1 + (i + 1) : Nat) : Int) by omega]
        exact r2
end
theorem wayF_ev {p L T D L' T' D' : Int} (h : ballB p L T D = true) (h' : ballB p L' T' D' = true) : ∃ ds : List Int, ((ds.length : Int) = L + L' - 2 * jnW p L L' (markOf p T D) (markOf p T' D') ∧ (∀ c ∈ ds, stepB p c = true) ∧ folL p ds ⟨L, T, D⟩ = some ⟨L', T', D'⟩) ∧ Ev (fun k => spec_l10Way.f k p L T D L' T' D') (strOfNums ds, true) ∧ Ev (fun k => impl_wayWord.f k p L T D L' T' D') (strOfNums ds) := by
  have hb := jnW_bd h h'
  have hs := jnW_same h h'
  have hj1 := spec_l02Join_ev h h'
  have hj2 := impl_joinLevel_ev h h'
  generalize jnW p L L' (markOf p T D) (markOf p T' D') = J at hb hs hj1 hj2
  obtain ⟨na, hna⟩ : ∃ na : Nat, L = J + na := ⟨(L - J).toNat, by omega⟩
  obtain ⟨nb, hnb⟩ : ∃ nb : Nat, L' = J + nb := ⟨(L' - J).toNat, by omega⟩
  obtain ⟨r, ⟨q1, q2, q3⟩, r1, r2⟩ := wayF_l0 h h' J na nb hb.1 hna hnb hs na 0 [] (by omega) (by simp)
  rw [List.nil_append] at r1 r2
  refine ⟨r, ⟨by omega, q2, ?_⟩, ?_, ?_⟩
  · rw [← upB_self h]; simpa using q3
  · unfold spec_l10Way.f
    refine Ev.bind hj1 ?_
    simpa using r1
  · unfold impl_wayWord.f impl_geodesic.f
    refine Ev.bind (a := (List.range (na + 1 + nb)).map (wayAt p (markOf p T D) (markOf p T' D') J na)) ?_ ?_
    · refine Ev.bind hj2 ?_
      have := geo_l0 h h' J na nb hb.1 hna hnb hs (na + 1) 0 (by omega)
      simpa using this
    · simpa using r2

structure okS (c : List Int) (q : Int) : Prop where
  b : ∀ x ∈ c, 0 ≤ x ∧ x ≤ 255
  l : c.length ≤ 5000
  p : 0 ≤ q ∧ q ≤ c.length
theorem mask34 {n : Int} (h0 : 0 ≤ n) (h1 : n < 18446744073709551616) : Go.bits .and .u64 n 17179869183 = n % 17179869184 := by
  obtain ⟨m, rfl⟩ : ∃ m : Nat, n = (m : Int) := ⟨n.toNat, by omega⟩
  have h := Go.bits_and_u64_nat m 17179869183 (by omega) (by omega)
  have e : m &&& 17179869183 = m % 17179869184 := Nat.and_two_pow_sub_one_eq_mod m 34
  rw [e] at h
  rw [show ((17179869183 : Nat) : Int) = 17179869183 from rfl] at h
  rw [h]; omega
theorem next_ok {c : List Int} {q : Int} (S : okS c q) (h a : Int) : ∃ v q' h', spec_l01Next.f c q h a = some (v, q', h') ∧ okS c q' ∧ 0 ≤ v ∧ (1 ≤ a → v < a) := by
  have Sl := S.l
  have Sp := S.p
  unfold spec_l01Next.f
  by_cases h1 : a < 1
  · rw [if_pos h1]; exact ⟨0, q, h, rfl, S, by omega, by omega⟩
  rw [if_neg h1]
  obtain ⟨w, hw⟩ : ∃ w, w = IntKind.u64.wrap (IntKind.u64.wrap (h * 6364136223846793005) + 1442695040888963407) := ⟨_, rfl⟩
  have hw0 : 0 ≤ w ∧ w < 18446744073709551616 := by rw [hw, IntKind.wrap_u64]; omega
  rw [← hw, mask34 (by omega) (by omega), wid (n := w / 8388608 % 17179869184) (by omega) (by omega)]
  by_cases h2 : q < (c.length : Int)
  · have hb : 0 ≤ rd c q ∧ rd c q ≤ 255 := by
      obtain ⟨m, rfl⟩ : ∃ m : Nat, q = (m : Int) := ⟨q.toNat, by omega⟩
      rw [rd_nat c m (by omega)]; exact S.b _ (List.getElem_mem _)
    rw [if_pos h2, if_pos Sp.1, if_neg (show ¬ a = 0 by omega), wid (n := rd c q) (by omega) (by omega), wid (n := w / 8388608 % 17179869184 + rd c q) (by omega) (by omega), wid (n := q + 1) (by omega) (by omega), tmod_cast (by omega)]
    exact ⟨_, _, _, rfl, ⟨S.b, S.l, by omega⟩, Int.emod_nonneg _ (by omega), fun _ => Int.emod_lt_of_pos _ (by omega)⟩
  · rw [if_neg h2, if_neg (show ¬ a = 0 by omega), tmod_cast (by omega)]
    exact ⟨_, _, _, rfl, S, Int.emod_nonneg _ (by omega), fun _ => Int.emod_lt_of_pos _ (by omega)⟩
theorem pick_ok {c : List Int} {q : Int} (S : okS c q) (h : Int) (l : List Int) (hl : 1 ≤ l.length) : ∃ v q' h', spec_l01Pick.f c q h l = some (v, q', h') ∧ okS c q' := by
  obtain ⟨v, q', h', e, S', v0, v1⟩ := next_ok S h (l.length : Int)
  unfold spec_l01Pick.f
  rw [e]
  simp only [Option.bind_some, if_pos v0, if_pos (v1 (by omega))]
  exact ⟨_, _, _, rfl, S'⟩
theorem from_ok {c : List Int} (hb : ∀ x ∈ c, 0 ≤ x ∧ x ≤ 255) (hl : c.length ≤ 5000) : ∃ h, Ev (fun k => spec_l01From.f k c) (c, 0, h) := by
  have key : ∀ d i : Nat, i + d = c.length → ∀ h, ∃ h', Ev (fun k => spec_l01From.l0 k c i c 0 h) (c, 0, h') := by
    intro d
    induction d with
    | zero =>
      intro i hi h
      refine ⟨h, Ev.up ?_⟩
      simp only [spec_l01From.l0, if_neg (show ¬ (i : Int) < (c.length : Int) by omega)]; exact Ev.now _
    | succ d ih =>
      intro i hi h
      by_cases h4 : (i : Int) < 4096
      · obtain ⟨h', e⟩ := ih (i + 1) (by omega) (IntKind.u64.wrap (IntKind.u64.wrap (IntKind.u64.wrap (h * 1099511628211) + IntKind.u64.wrap (rd c i)) + 71))
        refine ⟨h', Ev.up ?_⟩
        simp only [spec_l01From.l0, if_pos (show (i : Int) < (c.length : Int) by omega), if_pos h4, if_pos (show (0 : Int) ≤ (i : Int) by omega)]
        rw [wid (n := (i : Int) + 1) (by omega) (by omega)]
        exact e
      · refine ⟨h, Ev.up ?_⟩
        simp only [spec_l01From.l0, if_pos (show (i : Int) < (c.length : Int) by omega), if_neg h4]; exact Ev.now _
  unfold spec_l01From.f
  exact key c.length 0 (by omega) _

theorem rd_mem {l : List Int} {i : Int} (h0 : 0 ≤ i) (h1 : i < (l.length : Int)) : rd l i ∈ l := by
  obtain ⟨m, rfl⟩ : ∃ m : Nat, i = (m : Int) := ⟨i.toNat, by omega⟩
  rw [rd_nat l m (by omega)]; exact List.getElem_mem _
theorem pick_in {c : List Int} {q : Int} (S : okS c q) (h : Int) (l : List Int) (hl : 1 ≤ l.length) : ∃ v q' h', spec_l01Pick.f c q h l = some (v, q', h') ∧ okS c q' ∧ v ∈ l := by
  obtain ⟨v, q', h', e, S', v0, v1⟩ := next_ok S h (l.length : Int)
  unfold spec_l01Pick.f
  rw [e]
  simp only [Option.bind_some, if_pos v0, if_pos (v1 (by omega))]
  exact ⟨_, _, _, rfl, S', rd_mem v0 (v1 (by omega))⟩
theorem drawB_ok {c : List Int} {q p : Int} (S : okS c q) (h : Int) (hp : primeB p = true) : ∃ a b d q' h', Ev (fun k => spec_l01Draw.f k c q h p) (a, b, d, q', h') ∧ okS c q' := by
  obtain ⟨v1, q1, h1, e1, S1, a1, b1⟩ := next_ok S h 13
  obtain ⟨L, q2, h2, e2, S2, m2⟩ := pick_in S1 h1 [0, 1, 2, 3, wrap64 (v1 - 6)] (by simp)
  have hL : -6 ≤ L ∧ L ≤ 6 := by
    have := b1 (by omega)
    rw [wid (n := v1 - 6) (by omega) (by omega)] at m2
    simp only [List.mem_cons, List.not_mem_nil, or_false] at m2
    omega
  obtain ⟨v3, q3, h3, e3, S3, _⟩ := next_ok S2 h2 6
  unfold spec_l01Draw.f
  by_cases c3 : v3 = 0
  · refine ⟨L, 0, 0, q3, h3, Ev.bindv e1 (Ev.bindv e2 (Ev.bindv e3 ?_)), S3⟩
    simp only [if_pos c3]; exact Ev.now _
  obtain ⟨v4, q4, h4, e4, S4, a4, b4⟩ := next_ok S3 h3 20
  obtain ⟨v5, q5, h5, e5, S5, a5, b5⟩ := next_ok S4 h4 2000000
  obtain ⟨n, q6, h6, e6, S6, m6⟩ := pick_in S5 h5 [wrap64 (v4 - 10), wrap64 (v5 - 1000000)] (by simp)
  have hn : -1000000 ≤ n ∧ n ≤ 1000000 := by
    have := b4 (by omega)
    have := b5 (by omega)
    rw [wid (n := v4 - 10) (by omega) (by omega), wid (n := v5 - 1000000) (by omega) (by omega)] at m6
    simp only [List.mem_cons, List.not_mem_nil, or_false] at m6
    omega
  obtain ⟨v7, q7, h7, e7, S7, a7, b7⟩ := next_ok S6 h6 7
  obtain ⟨x, q8, h8, e8, S8, m8⟩ := pick_in S7 h7 [0, 0, 1, 2, v7] (by simp)
  have hx : 0 ≤ x ∧ x ≤ 6 := by
    have := b7 (by omega)
    simp only [List.mem_cons, List.not_mem_nil, or_false] at m8
    omega
  have ep := spec_l01Power_ev p x (by omega)
  rw [powW_prime hp _ (by omega)] at ep
  have eo := spec_l01Of_pow (num := n) (L := L) x.toNat hp (by omega) (by omega) (by omega) hL
  generalize hB : ofM p L (n * p ^ (6 - x.toNat)) = B at eo
  refine ⟨B.1, B.2.1, B.2.2, q8, h8, Ev.bindv e1 (Ev.bindv e2 (Ev.bindv e3 ?_)), S8⟩
  simp only [if_neg c3]
  refine Ev.bindv e4 (Ev.bindv e5 (Ev.bindv e6 (Ev.bindv e7 (Ev.bindv e8 (Ev.bind ep (Ev.bind eo ?_))))))
  simp only [if_true]
  exact Ev.now _
theorem badB_ok {c : List Int} {q : Int} (S : okS c q) (h x y z : Int) : ∃ a b d q' h', spec_l01Bad.f c q h x y z = some (a, b, d, q', h') ∧ okS c q' := by
  obtain ⟨v, q1, h1, e1, S1, _⟩ := next_ok S h 40
  obtain ⟨x2, q2, h2, e2, S2⟩ := pick_ok S1 h1 [(-7), 7, wrap64 (x - 1), 1099511627776] (by simp)
  obtain ⟨x3, q3, h3, e3, S3⟩ := pick_ok S1 h1 [(-1), wrap64 (y * 7), 1099511627776] (by simp)
  obtain ⟨x4, q4, h4, e4, S4⟩ := pick_ok S1 h1 [(-1), wrap64 (z + 1), 7] (by simp)
  unfold spec_l01Bad.f
  simp only [e1, Option.bind_some]
  by_cases c0 : v = 0
  · simp only [if_pos c0, e2, Option.bind_some]; exact ⟨_, _, _, _, _, rfl, S2⟩
  by_cases c1 : v = 1
  · simp only [if_neg c0, if_pos c1, e3, Option.bind_some]; exact ⟨_, _, _, _, _, rfl, S3⟩
  by_cases c2 : v = 2
  · simp only [if_neg c0, if_neg c1, if_pos c2, e4, Option.bind_some]; exact ⟨_, _, _, _, _, rfl, S4⟩
  · simp only [if_neg c0, if_neg c1, if_neg c2]; exact ⟨_, _, _, _, _, rfl, S1⟩
theorem spoil_ok {c : List Int} {q : Int} (S : okS c q) (h : Int) : ∃ p a b d q' h', Ev (fun k => spec_l01Spoil.f k c q h) (p, a, b, d, q', h') ∧ okS c q' := by
  obtain ⟨p, q1, h1, e1, S1, m1⟩ := pick_in S h [2, 2, 3, 3, 5, 7] (by simp)
  have hp : primeB p = true := by
    simp only [List.mem_cons, List.not_mem_nil, or_false] at m1
    rcases m1 with rfl | rfl | rfl | rfl | rfl | rfl <;> rfl
  obtain ⟨a, b, d, q2, h2, e2, S2⟩ := drawB_ok S1 h1 hp
  obtain ⟨a', b', d', q3, h3, e3, S3⟩ := badB_ok S2 h2 a b d
  obtain ⟨v, q4, h4, e4, S4, _⟩ := next_ok S3 h3 40
  have ed : spec_l01DrawPrime.f c q h = some (p, q1, h1) := by unfold spec_l01DrawPrime.f; rw [e1]; rfl
  unfold spec_l01Spoil.f
  by_cases c0 : v = 0
  · obtain ⟨p', q5, h5, e5, S5⟩ := pick_ok S4 h4 [0, 1, 4, 11, (-3)] (by simp)
    refine ⟨p', a', b', d', q5, h5, Ev.bindv ed (Ev.bind e2 (Ev.bindv e3 (Ev.bindv e4 ?_))), S5⟩
    simp only [if_pos c0]
    exact Ev.bindv e5 (Ev.now _)
  · refine ⟨p, a', b', d', q4, h4, Ev.bindv ed (Ev.bind e2 (Ev.bindv e3 (Ev.bindv e4 ?_))), S4⟩
    simp only [if_neg c0]
    exact Ev.now _
theorem word_l1 (C : List Int) (q h : Int) (d : Nat) : ∀ xs : List Int, 41 ≤ xs.length + 2 * d → xs.length ≤ 100 → ∃ s, Ev (fun k => spec_l10Word.l1 k xs C q h) (s, q, h) ∧ s.size ≤ 200 := by
  induction d with
  | zero =>
    intro xs hx hl
    refine ⟨strOfNums xs, Ev.up ?_, by rw [strOfNums_size]; omega⟩
    simp only [spec_l10Word.l1, if_neg (show ¬ (xs.length : Int) ≤ 40 by omega)]; exact Ev.now _
  | succ d ih =>
    intro xs hx hl
    by_cases h40 : (xs.length : Int) ≤ 40
    · obtain ⟨s, e, hs⟩ := ih (xs ++ [48, 117]) (by simp; omega) (by simp; omega)
      refine ⟨s, Ev.up ?_, hs⟩
      simp only [spec_l10Word.l1, if_pos h40, Option.bind_some, if_pos (show xs.length + [(48 : Int), 117].length < 140737488355328 by simp; omega)]
      exact e
    · refine ⟨strOfNums xs, Ev.up ?_, by rw [strOfNums_size]; omega⟩
      simp only [spec_l10Word.l1, if_neg h40]; exact Ev.now _
theorem word_l0 (p : Int) {C : List Int} (n : Nat) : ∀ (xs : List Int) (m q h : Int), okS C q → m ≤ n → -9223372036854775000 ≤ m → n ≤ 300 → xs.length + n ≤ 20 → ∃ s q' h', Ev (fun k => spec_l10Word.l0 k p xs m C q h) (s, q', h') ∧ okS C q' ∧ s.size ≤ 200 := by
  have fin : ∀ (xs : List Int) (m q h : Int), okS C q → m ≤ 0 → xs.length ≤ 20 → ∃ s q' h', Ev (fun k => spec_l10Word.l0 k p xs m C q h) (s, q', h') ∧ okS C q' ∧ s.size ≤ 200 := by
    intro xs m q h S hm hx
    obtain ⟨v, q1, h1, e1, S1, _⟩ := next_ok S h 40
    by_cases c0 : v = 0
    · refine ⟨strOfNums xs ++ ⟨#[57]⟩, q1, h1, Ev.up ?_, S1, by rw [ByteArray.size_append, strOfNums_size]; show xs.length + 1 ≤ 200; omega⟩
      simp only [spec_l10Word.l0, if_neg (show ¬ m > 0 by omega), e1, Option.bind_some, if_pos c0, strOfNums_size, if_pos (show xs.length + 1 ≤ 9223372036854775807 by omega)]
      exact Ev.now _
    by_cases c1 : v = 1
    · obtain ⟨s, e, hs⟩ := word_l1 C q1 h1 21 xs (by omega) (by omega)
      refine ⟨s, q1, h1, Ev.up ?_, S1, hs⟩
      simp only [spec_l10Word.l0, if_neg (show ¬ m > 0 by omega), e1, Option.bind_some, if_neg c0, if_pos c1]
      exact e
    · refine ⟨strOfNums xs, q1, h1, Ev.up ?_, S1, by rw [strOfNums_size]; omega⟩
      simp only [spec_l10Word.l0, if_neg (show ¬ m > 0 by omega), e1, Option.bind_some, if_neg c0, if_neg c1]
      exact Ev.now _
  induction n with
  | zero => intro xs m q h S hm _ _ hx; exact fin xs m q h S (by omega) (by omega)
  | succ n ih =>
    intro xs m q h S hm hlo hn hx
    by_cases h0 : m > 0
    · obtain ⟨v, q1, h1, e1, S1, _⟩ := next_ok S h 3
      by_cases c0 : v = 0
      · obtain ⟨s, q', h', e, S', hs⟩ := ih (xs ++ [117]) (m - 1) q1 h1 S1 (by omega) (by omega) (by omega) (by simp; omega)
        refine ⟨s, q', h', Ev.up ?_, S', hs⟩
        simp only [spec_l10Word.l0, if_pos h0, e1, Option.bind_some, if_pos c0, if_pos (show xs.length < 140737488355328 by omega)]
        rw [wid (n := m - 1) (by omega) (by omega)]
        exact e
      · obtain ⟨v2, q2, h2, e2, S2, _⟩ := next_ok S1 h1 (mn (mx p 1) 9)
        obtain ⟨s, q', h', e, S', hs⟩ := ih (xs ++ [(wrap64 (48 + v2)) % 256]) (m - 1) q2 h2 S2 (by omega) (by omega) (by omega) (by simp; omega)
        refine ⟨s, q', h', Ev.up ?_, S', hs⟩
        simp only [spec_l10Word.l0, if_pos h0, e1, e2, Option.bind_some, if_neg c0, if_pos (show xs.length < 140737488355328 by omega)]
        rw [wid (n := m - 1) (by omega) (by omega)]
        exact e
    · exact fin xs m q h S (by omega) (by omega)
theorem word_ok {C : List Int} {q : Int} (S : okS C q) (h p : Int) : ∃ s q' h', Ev (fun k => spec_l10Word.f k C q h p) (s, q', h') ∧ okS C q' ∧ s.size ≤ 200 := by
  obtain ⟨v1, q1, h1, e1, S1, a1, b1⟩ := next_ok S h 5
  obtain ⟨v2, q2, h2, e2, S2, a2, b2⟩ := next_ok S1 h1 9
  obtain ⟨n, q3, h3, e3, S3, m3⟩ := pick_in S2 h2 [v1, v2] (by simp)
  have hn : 0 ≤ n ∧ n ≤ 9 := by
    have := b1 (by omega)
    have := b2 (by omega)
    simp only [List.mem_cons, List.not_mem_nil, or_false] at m3
    omega
  obtain ⟨s, q', h', e, S', hs⟩ := word_l0 p 9 [] n q3 h3 S3 (by omega) (by omega) (by omega) (by simp)
  refine ⟨s, q', h', ?_, S', hs⟩
  unfold spec_l10Word.f
  exact Ev.bindv e1 (Ev.bindv e2 (Ev.bindv e3 e))
theorem drawFollow_ok {c : List Int} (hb : ∀ x ∈ c, 0 ≤ x ∧ x ≤ 255) (hl : c.length ≤ 5000) : ∃ p a b d s, Ev (fun k => spec_DrawFollowSteps.f k c) (p, a, b, d, s) ∧ s.size ≤ 200 := by
  obtain ⟨h, e⟩ := from_ok hb hl
  obtain ⟨p, a, b, d, q1, h1, e1, S1⟩ := spoil_ok (c := c) (q := 0) ⟨hb, hl, by omega⟩ h
  obtain ⟨s, q2, h2, e2, S2, hs⟩ := word_ok S1 h1 p
  refine ⟨p, a, b, d, s, ?_, hs⟩
  unfold spec_DrawFollowSteps.f
  exact Ev.bind e (Ev.bind e1 (Ev.bind e2 (Ev.now _)))

theorem children_ok {p L T D : Int} (h : ballB p L T D = true) : ∃ r, Ev (fun k => spec_l02Children.f k p L T D) r ∧ r.1.length ≤ 7 ∧ (r.2 = true → (r.1.length : Int) = p ∧ ∀ x ∈ r.1, ballB p x.f0 x.f1 x.f2 = true) := by
  have hp := (ball_parts h).1
  have hp2 := prime_lo hp
  have hp7 := prime_hi hp
  unfold spec_l02Children.f
  by_cases h6 : L = 6
  · refine ⟨([], false), Ev.up ?_, by simp, fun hf => by cases hf⟩
    simp only [spec_l02Children.l0, if_pos (show (0 : Int) < p by omega)]
    have hc := spec_l01Child_ev h (c := 0) (by omega)
    unfold chW at hc; rw [if_pos h6] at hc
    exact Ev.bind hc (Ev.now _)
  · have key : ∀ (d i : Nat) (xs : List S25), (i : Int) + d = p → xs.length = i → (∀ x ∈ xs, ballB p x.f0 x.f1 x.f2 = true) → ∃ r, Ev (fun k => spec_l02Children.l0 k p xs i L T D) r ∧ r.1.length ≤ 7 ∧ (r.2 = true → (r.1.length : Int) = p ∧ ∀ x ∈ r.1, ballB p x.f0 x.f1 x.f2 = true) := by
      intro d
      induction d with
      | zero =>
        intro i xs hi hx hb
        refine ⟨(xs, true), Ev.up ?_, by show xs.length ≤ 7; omega, fun _ => ⟨by show (xs.length : Int) = p; omega, hb⟩⟩
        simp only [spec_l02Children.l0, if_neg (show ¬ (i : Int) < p by omega)]; exact Ev.now _
      | succ d ih =>
        intro i xs hi hx hb
        have hc := spec_l01Child_ev h (c := (i : Int)) (by omega)
        unfold chW at hc; rw [if_neg h6] at hc
        obtain ⟨r, e, hr⟩ := ih (i + 1) (xs ++ [⟨(chM p L T D i).1, (chM p L T D i).2.1, (chM p L T D i).2.2⟩]) (by omega) (by simp [hx]) (fun x hx => by
          rcases List.mem_append.1 hx with hx | hx
          · exact hb x hx
          · rw [List.mem_singleton.1 hx]; exact chM_ball _ h h6)
        refine ⟨r, Ev.up ?_, hr⟩
        simp only [spec_l02Children.l0, if_pos (show (i : Int) < p by omega)]
        refine Ev.bind hc ?_
        simp only [if_true, if_pos (show xs.length < 5864062014805 by omega)]
        rw [wid (n := (i : Int) + 1) (by omega) (by omega)]
        exact e
    exact key p.toNat 0 [] (by omega) rfl (fun x hx => absurd hx List.not_mem_nil)
theorem nearB_ok {p L T D : Int} (h : ballB p L T D = true) : ∃ r, Ev (fun k => spec_l02Near.f k p L T D) r ∧ (r.2 = true → (r.1.length : Int) = p + 1 ∧ ∀ x ∈ r.1, ballB p x.f0 x.f1 x.f2 = true) := by
  have hp := (ball_parts h).1
  obtain ⟨r, e, hl, hr⟩ := children_ok h
  have hpar := spec_l01Parent_ev h
  have hpo : (parW p L T D).2.2.2 = true → ballB p (parW p L T D).1 (parW p L T D).2.1 (parW p L T D).2.2.1 = true := by
    unfold parW
    by_cases h6 : L = -6
    · rw [if_pos h6]; intro hf; cases hf
    · rw [if_neg h6]; intro _; exact parM_ball h h6
  generalize parW p L T D = P at hpar hpo
  by_cases hP : P.2.2.2 = true
  · refine ⟨(⟨P.1, P.2.1, P.2.2.1⟩ :: r.1, r.2), ?_, fun hf => ⟨?_, fun x hx => ?_⟩⟩
    · unfold spec_l02Near.f
      refine Ev.bind hpar (Ev.bind e ?_)
      simp only [Option.bind_some, List.length_singleton, if_pos (show 1 + r.1.length < 5864062014805 by omega), hP, if_true]
      exact Ev.now _
    · have := (hr hf).1
      rw [List.length_cons]; omega
    · rcases List.mem_cons.1 hx with rfl | hx
      · exact hpo hP
      · exact (hr hf).2 x hx
  · refine ⟨(⟨P.1, P.2.1, P.2.2.1⟩ :: r.1, false), ?_, fun hf => by cases hf⟩
    unfold spec_l02Near.f
    refine Ev.bind hpar (Ev.bind e ?_)
    simp only [Option.bind_some, List.length_singleton, if_pos (show 1 + r.1.length < 5864062014805 by omega), if_neg hP]
    exact Ev.now _
theorem two_l0 {c : List Int} {p A B E : Int} (n : Nat) : ∀ (m q h : Int) (b : S25), okS c q → m ≤ n → 0 ≤ m → n ≤ 10 → ballB p b.f0 b.f1 b.f2 = true → ∃ r, Ev (fun k => spec_l02Two.l0 k p m c q h A B E b.f0 b.f1 b.f2) r := by
  have fin : ∀ (m q h : Int) (b : S25), okS c q → m ≤ 0 → ∃ r, Ev (fun k => spec_l02Two.l0 k p m c q h A B E b.f0 b.f1 b.f2) r := by
    intro m q h b S hm
    obtain ⟨x, y, z, q1, h1, e1, S1⟩ := badB_ok S h b.f0 b.f1 b.f2
    refine ⟨(p, A, B, E, x, y, z, q1, h1), Ev.up ?_⟩
    simp only [spec_l02Two.l0, if_neg (show ¬ m > 0 by omega), e1, Option.bind_some]
    exact Ev.now _
  induction n with
  | zero => intro m q h b S hm _ _ _; exact fin m q h b S (by omega)
  | succ n ih =>
    intro m q h b S hm hlo hn hb
    by_cases h0 : m > 0
    · obtain ⟨r, e, hr⟩ := nearB_ok hb
      have hp := (ball_parts hb).1
      have hp2 := prime_lo hp
      have hp7 := prime_hi hp
      by_cases hf : r.2 = true
      · obtain ⟨hl, hx⟩ := hr hf
        obtain ⟨v, q1, h1, e1, S1, a1, b1⟩ := next_ok S h (p + 1)
        have hv := b1 (by omega)
        obtain ⟨j, rfl⟩ : ∃ j : Nat, v = (j : Int) := ⟨v.toNat, by omega⟩
        have hj : j < r.1.length := by omega
        have ej : rd_T25 r.1 (j : Int) = r.1[j] := by
          show r.1.getD j z25 = _
          rw [List.getD_eq_getElem?_getD, List.getElem?_eq_getElem hj]; rfl
        obtain ⟨r2, e2⟩ := ih (m - 1) q1 h1 r.1[j] S1 (by omega) (by omega) (by omega) (hx _ (List.getElem_mem _))
        refine ⟨r2, Ev.up ?_⟩
        simp only [spec_l02Two.l0, if_pos h0]
        refine Ev.bind e ?_
        rw [wid (n := p + 1) (by omega) (by omega), wid (n := m - 1) (by omega) (by omega)]
        simp only [if_pos hf, e1, Option.bind_some, if_pos a1, if_pos (show (j : Int) < (r.1.length : Int) by omega), ej]
        exact e2
      · obtain ⟨r2, e2⟩ := ih (m - 1) q h b S (by omega) (by omega) (by omega) hb
        refine ⟨r2, Ev.up ?_⟩
        simp only [spec_l02Two.l0, if_pos h0]
        refine Ev.bind e ?_
        rw [wid (n := m - 1) (by omega) (by omega)]
        simp only [if_neg hf]
        exact e2
    · exact fin m q h b S (by omega)
theorem two_j0 {c : List Int} {p A B E : Int} {q : Int} (S : okS c q) (h x y z : Int) (f : Bool) (hb : f = true → ballB p A B E = true) : ∃ r, Ev (fun k => spec_l02Two.j0 k p f c q h A B E x y z) r := by
  cases f with
  | true =>
    obtain ⟨v, q1, h1, e1, S1, a1, b1⟩ := next_ok S h 5
    have hv := b1 (by omega)
    obtain ⟨r, e⟩ := two_l0 (A := A) (B := B) (E := E) 5 v q1 h1 ⟨A, B, E⟩ S1 (by omega) a1 (by omega) (hb rfl)
    refine ⟨r, Ev.up ?_⟩
    simp only [spec_l02Two.j0, if_true, e1, Option.bind_some]
    exact e
  | false =>
    obtain ⟨a', b', d', q1, h1, e1, S1⟩ := badB_ok S h x y z
    refine ⟨(p, A, B, E, a', b', d', q1, h1), Ev.up ?_⟩
    simp only [spec_l02Two.j0, Bool.false_eq_true, if_false, e1, Option.bind_some]
    exact Ev.now _
theorem two_ok {c : List Int} {q : Int} (S : okS c q) (h : Int) : ∃ r, Ev (fun k => spec_l02Two.f k c q h) r := by
  obtain ⟨p, a, b, d, q1, h1, e1, S1⟩ := spoil_ok S h
  have efine : ∃ t, spec_l02Fine.f p = some t ∧ primeB t = true := by
    unfold spec_l02Fine.f
    rw [spec_l01Prime_eq]
    cases hp : primeB p with
    | true => exact ⟨p, by simp, hp⟩
    | false => exact ⟨3, by simp, rfl⟩
  obtain ⟨t, e2, ht⟩ := efine
  obtain ⟨x, y, z, q3, h3, e3, S3⟩ := drawB_ok S1 h1 ht
  unfold spec_l02Two.f
  have go : ∀ {r}, Ev (fun k => (spec_l01Prime.f p).bind fun t527 => (if t527 = true then ((spec_l01Is.f k p a b d).bind fun t528 => (if t528 = true then ((spec_l01Next.f c q3 h3 2).bind fun bt529 => (spec_l02Two.j0 k p (bt529.1 == 0) c bt529.2.1 bt529.2.2 a b d x y z)) else (spec_l02Two.j0 k p false c q3 h3 a b d x y z))) else (spec_l02Two.j0 k p false c q3 h3 a b d x y z))) r → ∃ r, Ev (fun k => (spec_l01Spoil.f k c q h).bind fun bt513 => ((spec_l02Fine.f bt513.1).bind fun t520 => ((spec_l01Draw.f k c bt513.2.2.2.2.1 bt513.2.2.2.2.2 t520).bind fun bt521 => ((spec_l01Prime.f bt513.1).bind fun t527 => (if t527 = true then ((spec_l01Is.f k bt513.1 bt513.2.1 bt513.2.2.1 bt513.2.2.2.1).bind fun t528 => (if t528 = true then ((spec_l01Next.f c bt521.2.2.2.1 bt521.2.2.2.2 2).bind fun bt529 => (spec_l02Two.j0 k bt513.1 (bt529.1 == 0) c bt529.2.1 bt529.2.2 bt513.2.1 bt513.2.2.1 bt513.2.2.2.1 bt521.1 bt521.2.1 bt521.2.2.1)) else (spec_l02Two.j0 k bt513.1 false c bt521.2.2.2.1 bt521.2.2.2.2 bt513.2.1 bt513.2.2.1 bt513.2.2.2.1 bt521.1 bt521.2.1 bt521.2.2.1))) else (spec_l02Two.j0 k bt513.1 false c bt521.2.2.2.1 bt521.2.2.2.2 bt513.2.1 bt513.2.2.1 bt513.2.2.2.1 bt521.1 bt521.2.1 bt521.2.2.1)))))) r := fun {r} hr => ⟨r, Ev.bind e1 (Ev.bindv e2 (Ev.bind e3 hr))⟩
  obtain ⟨rN, eN⟩ := two_j0 (p := p) (A := a) (B := b) (E := d) S3 h3 x y z false (fun hf => by cases hf)
  cases hp : primeB p with
  | false =>
    refine go (r := rN) (Ev.bindv (spec_l01Prime_eq p) ?_)
    rw [hp]; simp only [Bool.false_eq_true, if_false]; exact eN
  | true =>
    cases hb : ballB p a b d with
    | false =>
      refine go (r := rN) (Ev.bindv (spec_l01Prime_eq p) ?_)
      rw [hp]; simp only [if_true]
      refine Ev.bind (spec_l01Is_ev p a b d) ?_
      rw [hb]; simp only [Bool.false_eq_true, if_false]; exact eN
    | true =>
      obtain ⟨v, q4, h4, e4, S4, _⟩ := next_ok S3 h3 2
      obtain ⟨r, e⟩ := two_j0 (p := p) (A := a) (B := b) (E := d) S4 h4 x y z (v == 0) (fun _ => hb)
      refine go (r := r) (Ev.bindv (spec_l01Prime_eq p) ?_)
      rw [hp]; simp only [if_true]
      refine Ev.bind (spec_l01Is_ev p a b d) ?_
      rw [hb]; simp only [if_true]
      exact Ev.bindv e4 e
theorem drawWay_ok {c : List Int} (hb : ∀ x ∈ c, 0 ≤ x ∧ x ≤ 255) (hl : c.length ≤ 5000) : ∃ r, Ev (fun k => spec_DrawWayWord.f k c) r := by
  obtain ⟨h, e⟩ := from_ok hb hl
  obtain ⟨r, e1⟩ := two_ok (c := c) (q := 0) ⟨hb, hl, by omega⟩ h
  unfold spec_DrawWayWord.f
  exact ⟨_, Ev.bind e (Ev.bind e1 (Ev.now _))⟩

theorem impl_areBalls_ev (p : Int) (l : List S25) (hl : l.length ≤ 4611686018427387904) : Ev (fun k => impl_areBalls.f k p l) (primeB p && l.all (fun b => ballB p b.f0 b.f1 b.f2)) := by
  unfold impl_areBalls.f
  have hr : ∀ (i : Nat) (k : Nat), i < l.length → impl_areBalls.l0 (k + 1) p l l.length i = (impl_IsBall.f k p (l.getD i z25).f0 (l.getD i z25).f1 (l.getD i z25).f2).bind fun t => if t = true then impl_areBalls.l0 k p l l.length ((i : Int) + 1) else some false := by
    intro i k hi
    simp only [impl_areBalls.l0]
    rw [if_pos (by omega), if_pos (by omega), if_pos (by omega), wid (by omega) (by omega)]; rfl
  have := all_ev' (fun k i => impl_areBalls.l0 k p l l.length i) l.length (fun i => ballB p (l.getD i z25).f0 (l.getD i z25).f1 (l.getD i z25).f2) (primeB p) false (by
    intro i r hi hb hr'
    refine Ev.step (hr i · hi) (Ev.bind (impl_IsBall_ev _ _ _ _) ?_)
    rw [hb]; simpa using hr') (by
    intro i hi hb
    refine Ev.step (hr i · hi) (Ev.bind (impl_IsBall_ev _ _ _ _) ?_)
    rw [hb]; simp; exact Ev.now _) (by
    refine Ev.step (f := fun _ => (impl_isPrime.f p).bind fun t => some t) (fun k => by simp only [impl_areBalls.l0]; rw [if_neg (by omega)]) ?_
    exact Ev.bindv (impl_isPrime_eq p) (Ev.now _))
  rw [all_range_getD l z25 (fun b => ballB p b.f0 b.f1 b.f2)] at this
  rw [show (primeB p && l.all (fun b => ballB p b.f0 b.f1 b.f2)) = (if l.all (fun b => ballB p b.f0 b.f1 b.f2) = true then primeB p else false) from by cases l.all (fun b => ballB p b.f0 b.f1 b.f2) <;> simp]
  exact this

theorem spec_FollowSteps_l {p : Int} (s : ByteArray) (hs : s.size ≤ 40) (n : Nat) : ∀ (i : Nat) (b : S25), i + n = s.size → okB p b →
    Ev (fun k => spec_FollowSteps.l0 k p s i b.f0 b.f1 b.f2) (match folW p s n i b with | some b' => (b'.f0, b'.f1, b'.f2, 0) | none => (0, 0, 0, 3)) := by
  induction n with
  | zero =>
    intro i b hi hb
    exact Ev.step (f := fun _ => some (b.f0, b.f1, b.f2, 0)) (fun k => by simp only [spec_FollowSteps.l0]; rw [if_neg (by omega)]) (Ev.now _)
  | succ n ih =>
    intro i b hi hb
    have step := spec_l10Step_ev hb (c := bt s (i : Int)) ⟨bt_lo _ _, bt_hi _ _⟩
    have hw : wrap64 ((i : Int) + 1) = ((i + 1 : Nat) : Int) := by rw [wid (by omega) (by omega)]; rfl
    refine Ev.step (f := fun k => (spec_l10Step.f k p b.f0 b.f1 b.f2 (bt s (i : Int))).bind fun t => if t.2.2.2 = true then spec_FollowSteps.l0 k p s ((i + 1 : Nat) : Int) t.1 t.2.1 t.2.2.1 else some (0, 0, 0, 3)) (fun k => ?_) (Ev.bind step ?_)
    · simp only [spec_FollowSteps.l0]
      rw [if_pos (by omega), if_pos (by omega), hw]
    · show Ev (fun k => if (letW p b (bt s (i : Int))).2.2.2 = true then _ else _) _
      unfold folW
      cases hf : (letW p b (bt s (i : Int))).2.2.2 with
      | false => simp only [Bool.false_eq_true, if_false]; exact Ev.now _
      | true => simp only [if_true]; exact ih (i + 1) ⟨_, _, _⟩ (by omega) (letW_ok _ hb hf)
theorem code_w (p L T D : Int) (s : ByteArray) : (if codeB p [(⟨L, T, D⟩ : S25)] then (if stepsB p s then (0 : Int) else 6) else 1) = stepsCodeW p L T D s := by
  unfold stepsCodeW codeB
  rw [show (primeB p && ([(⟨L, T, D⟩ : S25)].all fun b => ballB p b.f0 b.f1 b.f2)) = ballB p L T D from by
    cases h : ballB p L T D with
    | false => simp [h]
    | true => simp [h, ballB_prime h]]
theorem code_0 {p L T D : Int} {s : ByteArray} (h : stepsCodeW p L T D s = 0) : ballB p L T D = true ∧ stepsB p s = true := by
  unfold stepsCodeW at h
  cases hb : ballB p L T D with
  | false => rw [hb] at h; simp at h
  | true =>
    refine ⟨rfl, ?_⟩
    rw [hb] at h
    cases hst : stepsB p s with
    | true => rfl
    | false => rw [hst] at h; simp at h
theorem code_of {p L T D : Int} {s : ByteArray} (hb : ballB p L T D = true) (hs : stepsB p s = true) : stepsCodeW p L T D s = 0 := by
  unfold stepsCodeW; rw [hb, hs]; rfl
def folE (o : Option S25) : Int × Int × Int × Int := match o with | some b' => (b'.f0, b'.f1, b'.f2, 0) | none => (0, 0, 0, 3)
def folR (p L T D : Int) (s : ByteArray) : Int × Int × Int × Int := if stepsCodeW p L T D s = 0 then folE (folL p (ltrs s) ⟨L, T, D⟩) else (0, 0, 0, stepsCodeW p L T D s)
theorem follow_both (p L T D : Int) (s : ByteArray) (hs : s.size ≤ 200) : Ev (fun k => spec_FollowSteps.f k p L T D s) (folR p L T D s) ∧ Ev (fun k => impl_FollowSteps.f k p L T D s) (folR p L T D s) := by
  unfold folR
  by_cases h : stepsCodeW p L T D s = 0
  · obtain ⟨hb, hst⟩ := code_0 h
    have hp := (ball_parts hb).1
    have hst2 := hst
    unfold stepsB at hst2
    rw [Bool.and_eq_true, decide_eq_true_eq, List.all_eq_true] at hst2
    have hs40 := hst2.1
    obtain ⟨ys, g1, g2⟩ := impl_follow_l s hp hs40 (fun i hi => hst2.2 i (by simpa using hi)) s.size 0 ⟨L, T, D⟩ [⟨L, T, D⟩] (by omega) hb rfl rfl
    have g3 := spec_FollowSteps_l (p := p) s hs40 s.size 0 ⟨L, T, D⟩ (by omega) hb
    have e0 := folW_eq p s s.size 0 ⟨L, T, D⟩ (by omega)
    rw [List.drop_zero] at e0
    rw [e0] at g3 g1 g2
    rw [if_pos h]
    constructor
    · unfold spec_FollowSteps.f
      refine Ev.bind (spec_l10Code_ev p s _ (by omega) (by simp)) ?_
      rw [code_w]
      simp only [if_pos h]
      exact g3
    · unfold impl_FollowSteps.f
      refine Ev.bind (impl_stepsCode_ev p L T D s (by omega)) ?_
      simp only [if_pos h]
      unfold impl_follow.f
      refine Ev.bind g1 ?_
      cases hf : folL p (ltrs s) (⟨L, T, D⟩ : S25) with
      | none =>
        simp only [Option.isSome_none, Bool.false_eq_true, if_false]
        exact Ev.now _
      | some b' =>
        obtain ⟨l1, l2, _⟩ := g2 b' hf
        have hw : wrap64 ((ys.length : Int) - 1) = (s.size : Int) := by rw [l1, wid (by omega) (by omega)]; omega
        have e : rd_T25 ys (s.size : Int) = b' := by
          show ys.getD s.size z25 = b'
          rw [List.getD_eq_getElem?_getD, l2]; rfl
        simp only [Option.isSome_some, if_true, hw, e]
        rw [if_pos (by omega), if_pos (by omega)]
        exact Ev.now _
  · rw [if_neg h]
    constructor
    · unfold spec_FollowSteps.f
      refine Ev.bind (spec_l10Code_ev p s _ (by omega) (by simp)) ?_
      rw [code_w]
      simp only [if_neg h]; exact Ev.now _
    · unfold impl_FollowSteps.f
      refine Ev.bind (impl_stepsCode_ev p L T D s (by omega)) ?_
      simp only [if_neg h]; exact Ev.now _
theorem normal_same (s : ByteArray) : ∀ (k : Nat) (xs : List Int) (i : Int), spec_NormalSteps.l0 k s xs i = impl_NormalSteps.l0 k s xs s.size i := by
  intro k
  induction k with
  | zero => intro xs i; rfl
  | succ k ih =>
    intro xs i
    simp only [spec_NormalSteps.l0, impl_NormalSteps.l0, ih]
    by_cases h : i < (s.size : Int)
    · simp only [if_pos h]
    · simp only [if_neg h]
theorem normal_l (s : ByteArray) (hs : s.size ≤ 1048576) (d : Nat) : ∀ (xs : List Int) (i : Nat), xs.length ≤ i → i + d = s.size → Ev (fun k => spec_NormalSteps.l0 k s xs i) (strOfNums (nrm xs ((ltrs s).drop i)), 0) := by
  induction d with
  | zero =>
    intro xs i hl hd
    rw [List.drop_of_length_le (by rw [ltrs_len]; omega)]
    exact Ev.step (f := fun _ => some (strOfNums xs, 0)) (fun k => by simp only [spec_NormalSteps.l0]; rw [if_neg (by omega)]) (Ev.now _)
  | succ d ih =>
    intro xs i hl hd
    rw [ltrs_drop s i (by omega)]
    have hw : wrap64 ((i : Int) + 1) = ((i + 1 : Nat) : Int) := by rw [wid (by omega) (by omega)]; rfl
    have app := ih (xs ++ [bt s (i : Int)]) (i + 1) (by simp; omega) (by omega)
    by_cases hc : bt s (i : Int) = 117
    · by_cases hn : (xs.length : Int) > 0
      · have hm : wrap64 ((xs.length : Int) - 1) = ((xs.length - 1 : Nat) : Int) := by rw [wid (by omega) (by omega)]; omega
        have er : rd xs ((xs.length - 1 : Nat) : Int) = xs.getD (xs.length - 1) 0 := by
          rw [rd_nat xs _ (by omega), List.getD_eq_getElem?_getD, List.getElem?_eq_getElem (by omega)]; rfl
        by_cases hu : xs.getD (xs.length - 1) 0 = 117
        · have e : nrm xs (bt s (i : Int) :: (ltrs s).drop (i + 1)) = nrm (xs ++ [bt s (i : Int)]) ((ltrs s).drop (i + 1)) := by
            show (if _ then _ else _) = _
            rw [if_neg (fun h => h.2.2 hu)]
          rw [e]
          refine Ev.step (f := fun k => spec_NormalSteps.l0 k s (xs ++ [bt s (i : Int)]) ((i + 1 : Nat) : Int)) (fun k => ?_) app
          simp only [spec_NormalSteps.l0]
          rw [if_pos (by omega), if_pos (by omega), if_pos hc, if_pos hn, hm, if_pos (by omega), if_pos (by omega), er, if_pos hu, if_pos (by omega), hw]
        · have e : nrm xs (bt s (i : Int) :: (ltrs s).drop (i + 1)) = nrm (xs.take (xs.length - 1)) ((ltrs s).drop (i + 1)) := by
            show (if _ then _ else _) = _
            rw [if_pos ⟨hc, by omega, hu⟩]
          rw [e]
          refine Ev.step (f := fun k => spec_NormalSteps.l0 k s (xs.take (xs.length - 1)) ((i + 1 : Nat) : Int)) (fun k => ?_) (ih _ (i + 1) (by rw [List.length_take]; omega) (by omega))
          simp only [spec_NormalSteps.l0]
          rw [if_pos (by omega), if_pos (by omega), if_pos hc, if_pos hn, hm, if_pos (by omega), if_pos (by omega), er, if_neg hu, if_pos (by omega), hw, Int.toNat_natCast]
      · have e : nrm xs (bt s (i : Int) :: (ltrs s).drop (i + 1)) = nrm (xs ++ [bt s (i : Int)]) ((ltrs s).drop (i + 1)) := by
          show (if _ then _ else _) = _
          rw [if_neg (fun h => by omega)]
        rw [e]
        refine Ev.step (f := fun k => spec_NormalSteps.l0 k s (xs ++ [bt s (i : Int)]) ((i + 1 : Nat) : Int)) (fun k => ?_) app
        simp only [spec_NormalSteps.l0]
        rw [if_pos (by omega), if_pos (by omega), if_pos hc, if_neg hn, if_pos (by omega), hw]
    · have e : nrm xs (bt s (i : Int) :: (ltrs s).drop (i + 1)) = nrm (xs ++ [bt s (i : Int)]) ((ltrs s).drop (i + 1)) := by
        show (if _ then _ else _) = _
        rw [if_neg (fun h => hc h.1)]
      rw [e]
      refine Ev.step (f := fun k => spec_NormalSteps.l0 k s (xs ++ [bt s (i : Int)]) ((i + 1 : Nat) : Int)) (fun k => ?_) app
      simp only [spec_NormalSteps.l0]
      rw [if_pos (by omega), if_pos (by omega), if_neg hc, if_pos (by omega), hw]
def nrmR (p : Int) (s : ByteArray) : ByteArray × Int := if stepsCodeW p 0 0 0 s = 0 then (strOfNums (nrm [] (ltrs s)), 0) else (⟨#[]⟩, stepsCodeW p 0 0 0 s)
theorem zero_ball (p : Int) : ballB p 0 0 0 = primeB p := by simp [ballB]
theorem normal_both (p : Int) (s : ByteArray) (hs : s.size ≤ 200) : Ev (fun k => spec_NormalSteps.f k p s) (nrmR p s) ∧ Ev (fun k => impl_NormalSteps.f k p s) (nrmR p s) := by
  have hr := normal_l s (by omega) s.size [] 0 (by simp) (by omega)
  rw [List.drop_zero] at hr
  have hcode : (if codeB p ([] : List S25) then (if stepsB p s then (0 : Int) else 6) else 1) = stepsCodeW p 0 0 0 s := by
    unfold stepsCodeW codeB
    rw [zero_ball]
    simp
  unfold nrmR
  constructor
  · unfold spec_NormalSteps.f
    refine Ev.bind (spec_l10Code_ev p s [] (by omega) (by simp)) ?_
    rw [hcode]
    by_cases h : stepsCodeW p 0 0 0 s = 0
    · simp only [if_pos h]; exact hr
    · simp only [if_neg h]; exact Ev.now _
  · unfold impl_NormalSteps.f
    refine Ev.bind (impl_stepsCode_ev p 0 0 0 s (by omega)) ?_
    by_cases h : stepsCodeW p 0 0 0 s = 0
    · simp only [if_pos h]
      exact Ev.congr (fun k => (normal_same s k [] 0).symm) hr
    · simp only [if_neg h]; exact Ev.now _
theorem reverse_both (p L T D : Int) (s : ByteArray) (hs : s.size ≤ 200) : ∃ r : ByteArray × Int, Ev (fun k => spec_ReverseSteps.f k p L T D s) r ∧ Ev (fun k => impl_ReverseSteps.f k p L T D s) r ∧
    r.2 = (folR p L T D s).2.2.2 ∧ ∀ e, stepsCodeW p L T D s = 0 → folL p (ltrs s) ⟨L, T, D⟩ = some e → ∃ ds, r.1 = strOfNums ds ∧ ds.length ≤ 40 ∧ (∀ c ∈ ds, stepB p c = true) ∧ folL p ds e = some ⟨L, T, D⟩ := by
  by_cases h : stepsCodeW p L T D s = 0
  · obtain ⟨hb, hst⟩ := code_0 h
    have hp := (ball_parts hb).1
    have hst2 := hst
    unfold stepsB at hst2
    rw [Bool.and_eq_true, decide_eq_true_eq, List.all_eq_true] at hst2
    have hs40 := hst2.1
    have key := rev_walk s hp hs40 (fun i hi => hst2.2 i (by simpa using hi)) s.size 0 ⟨L, T, D⟩ [] [] (by omega) hb rfl rfl trivial
    rw [List.drop_zero] at key
    have sp : ∀ {z : ByteArray × Int}, Ev (fun k => spec_ReverseSteps.l0 k p s (strOfNums []) ((0 : Nat) : Int) L T D) z → Ev (fun k => spec_ReverseSteps.f k p L T D s) z := fun {z} hz => by
      unfold spec_ReverseSteps.f
      refine Ev.bind (spec_l10Code_ev p s _ (by omega) (by simp)) ?_
      rw [code_w]
      simp only [if_pos h]
      exact hz
    rcases key with ⟨n0, n1, n2⟩ | ⟨ys, ds, ⟨o1, o2, o3⟩, n1, n2, n3⟩
    · refine ⟨_, sp n2, ?_, ?_, ?_⟩
      · unfold impl_ReverseSteps.f
        refine Ev.bind (impl_stepsCode_ev p L T D s (by omega)) ?_
        simp only [if_pos h]
        unfold impl_follow.f
        refine Ev.bind (a := (([] : List S25), false)) n1 ?_
        exact Ev.now _
      · unfold folR; rw [if_pos h, n0]; rfl
      · intro e _ he; rw [n0] at he; cases he
    · obtain ⟨f1, f2⟩ := back_fol _ _ n3
      refine ⟨_, sp n2, ?_, ?_, ?_⟩
      · unfold impl_ReverseSteps.f
        refine Ev.bind (impl_stepsCode_ev p L T D s (by omega)) ?_
        simp only [if_pos h]
        unfold impl_follow.f
        refine Ev.bind (a := (ys, true)) n1 ?_
        obtain ⟨K, hK⟩ := rev_ok n3 (by omega)
        refine ⟨K, fun k hk => ?_⟩
        obtain ⟨o1, o2⟩ := hK k hk
        simp only [if_true, o1, o2]
      · have hne : ys.reverse.head? ≠ none := by
          have := backL_len _ _ n3
          intro hn
          rw [List.head?_eq_none_iff] at hn
          rw [hn] at this; simp at this
        unfold folR
        rw [if_pos h, o1]
        cases hh : ys.reverse.head? with
        | none => exact absurd hh hne
        | some e => rfl
      · intro e _ he
        rw [o1] at he
        refine ⟨ds, rfl, by omega, f1, ?_⟩
        rw [f2 e he, List.getLast?_reverse, o2]; rfl
  · refine ⟨(⟨#[]⟩, stepsCodeW p L T D s), ?_, ?_, ?_, fun e h0 _ => absurd h0 h⟩
    · unfold spec_ReverseSteps.f
      refine Ev.bind (spec_l10Code_ev p s _ (by omega) (by simp)) ?_
      rw [code_w]
      simp only [if_neg h]; exact Ev.now _
    · unfold impl_ReverseSteps.f
      refine Ev.bind (impl_stepsCode_ev p L T D s (by omega)) ?_
      simp only [if_neg h]; exact Ev.now _
    · unfold folR; rw [if_neg h]
theorem way_both (p L T D L' T' D' : Int) : ∃ r : ByteArray × Int, Ev (fun k => spec_WayWord.f k p L T D L' T' D') r ∧ Ev (fun k => impl_WayWord.f k p L T D L' T' D') r ∧
    (r.2 = 0 → (ballB p L T D = true ∧ ballB p L' T' D' = true) ∧ ∃ ds : List Int, r.1 = strOfNums ds ∧ (ds.length : Int) = L + L' - 2 * jnW p L L' (markOf p T D) (markOf p T' D') ∧ (∀ c ∈ ds, stepB p c = true) ∧ folL p ds ⟨L, T, D⟩ = some ⟨L', T', D'⟩) := by
  have hcode := spec_l01Code_ev p [(⟨L, T, D⟩ : S25), ⟨L', T', D'⟩] (by simp)
  have hballs := impl_areBalls_ev p [(⟨L, T, D⟩ : S25), ⟨L', T', D'⟩] (by simp)
  cases hc : codeB p [(⟨L, T, D⟩ : S25), ⟨L', T', D'⟩] with
  | false =>
    rw [hc] at hcode
    refine ⟨(⟨#[]⟩, 1), ?_, ?_, fun h => by cases h⟩
    · unfold spec_WayWord.f
      refine Ev.bind hcode ?_
      simp only [Bool.false_eq_true, if_false, if_neg (show ¬ (1 : Int) = 0 by decide)]
      exact Ev.now _
    · unfold impl_WayWord.f
      unfold codeB at hc
      rw [hc] at hballs
      refine Ev.bind hballs ?_
      simp only [Bool.false_eq_true, if_false]
      exact Ev.now _
  | true =>
    rw [hc] at hcode
    have hb : ballB p L T D = true ∧ ballB p L' T' D' = true := by
      unfold codeB at hc
      simp only [List.all_cons, List.all_nil, Bool.and_true, Bool.and_eq_true] at hc
      exact hc.2
    obtain ⟨ds, hd, r1, r2⟩ := wayF_ev hb.1 hb.2
    refine ⟨(strOfNums ds, 0), ?_, ?_, fun _ => ⟨hb, ds, rfl, hd⟩⟩
    · unfold spec_WayWord.f
      refine Ev.bind hcode ?_
      simp only [if_true]
      refine Ev.bind r1 ?_
      simp only [if_true]
      exact Ev.now _
    · unfold impl_WayWord.f
      unfold codeB at hc
      rw [hc] at hballs
      refine Ev.bind hballs ?_
      simp only [if_true]
      exact Ev.bind r2 (Ev.now _)
theorem dist_ev {p L T D L' T' D' : Int} (h : ballB p L T D = true) (h' : ballB p L' T' D' = true) : Ev (fun k => impl_TreeDistance.f k p L T D L' T' D') (L + L' - 2 * jnW p L L' (markOf p T D) (markOf p T' D'), 0) := by
  have hballs := impl_areBalls_ev p [(⟨L, T, D⟩ : S25), ⟨L', T', D'⟩] (by simp)
  have e : (primeB p && [(⟨L, T, D⟩ : S25), ⟨L', T', D'⟩].all fun b => ballB p b.f0 b.f1 b.f2) = true := by
    simp [h, h', ballB_prime h]
  rw [e] at hballs
  have b1 := jnW_bd h h'
  have l1 := (ball_parts h).2.1
  have l2 := (ball_parts h').2.1
  have ej := impl_joinLevel_ev h h'
  unfold impl_TreeDistance.f
  refine Ev.bind hballs ?_
  simp only [if_true]
  unfold impl_distance.f
  refine Ev.bind (a := L + L' - 2 * jnW p L L' (markOf p T D) (markOf p T' D')) ?_ (Ev.now _)
  refine Ev.bind ej ?_
  rw [wid (n := L + L') (by omega) (by omega), wid (n := 2 * _) (by omega) (by omega), wid (by omega) (by omega)]
  exact Ev.now _
theorem str_size {p : Int} {l : List Int} (hl : l.length ≤ 40) : (strOfNums l).size ≤ 200 := by rw [strOfNums_size]; omega
theorem steps_j4 (p L T D : Int) (s : ByteArray) (hs : s.size ≤ 200) (r : ByteArray × Int) (h1 : r.2 = (folR p L T D s).2.2.2) (h2 : ∀ e, stepsCodeW p L T D s = 0 → folL p (ltrs s) ⟨L, T, D⟩ = some e → ∃ ds, r.1 = strOfNums ds ∧ ds.length ≤ 40 ∧ (∀ c ∈ ds, stepB p c = true) ∧ folL p ds e = some ⟨L, T, D⟩) :
    Ev (fun k => laws_FnSteps.j4 k p (folR p L T D s).2.2.2 r.1 r.2 (nrmR p s).1 (nrmR p s).2 L T D (folR p L T D s).1 (folR p L T D s).2.1 (folR p L T D s).2.2.1) true := by
  by_cases h : stepsCodeW p L T D s = 0
  · obtain ⟨hb, hst⟩ := code_0 h
    have hp := (ball_parts hb).1
    cases hf : folL p (ltrs s) ⟨L, T, D⟩ with
    | none =>
      have e0 : folR p L T D s = (0, 0, 0, 3) := by unfold folR; rw [if_pos h, hf]; rfl
      rw [e0] at h1 ⊢
      refine Ev.up ?_
      simp only [laws_FnSteps.j4, if_neg (show ¬ (3 : Int) = 0 by decide), h1, beq_self_eq_true, Bool.and_self, if_true]
      exact Ev.now _
    | some e =>
      obtain ⟨ds, d1, d2, d3, d4⟩ := h2 e h hf
      have e0 : folR p L T D s = (e.f0, e.f1, e.f2, 0) := by unfold folR; rw [if_pos h, hf]; rfl
      have he : ballB p e.f0 e.f1 e.f2 = true := folL_ok (p := p) (ltrs s) ⟨L, T, D⟩ e hb hf
      obtain ⟨z1, z2⟩ := steps_str hp d2 d3
      have r1 : folR p e.f0 e.f1 e.f2 (strOfNums ds) = (L, T, D, 0) := by
        unfold folR; rw [if_pos (code_of he z1), z2]
        show folE (folL p ds e) = _
        rw [d4]; rfl
      obtain ⟨s1, s2⟩ := steps_ltrs hst
      have n1 : (nrm [] (ltrs s)).length ≤ 40 := by
        have := nrm_len (ltrs s) []
        rw [ltrs_len, List.length_nil] at this; omega
      have n2 := nrm_mem (fun c => stepB p c = true) (ltrs s) [] (fun c hc => absurd hc List.not_mem_nil) s2
      obtain ⟨m1, m2⟩ := steps_str hp n1 n2
      have c0 : stepsCodeW p 0 0 0 s = 0 := code_of (by rw [zero_ball]; exact hp) hst
      have e1 : nrmR p s = (strOfNums (nrm [] (ltrs s)), 0) := by unfold nrmR; rw [if_pos c0]
      have e2 : folR p L T D (strOfNums (nrm [] (ltrs s))) = (e.f0, e.f1, e.f2, 0) := by
        unfold folR; rw [if_pos (code_of hb m1), m2, nrm_fol (p := p) (ltrs s) [] ⟨L, T, D⟩ e hb (by rw [List.nil_append]; exact hf)]; rfl
      have e3 : nrmR p (strOfNums (nrm [] (ltrs s))) = (strOfNums (nrm [] (ltrs s)), 0) := by
        have g : goodN (nrm [] (ltrs s)) := nrm_good _ _ (fun i hi => absurd hi (by simp))
        unfold nrmR
        rw [if_pos (code_of (by rw [zero_ball]; exact hp) m1), m2, nrm_same _ [] (by rw [List.nil_append]; exact g), List.nil_append]
      have f1 := (follow_both p e.f0 e.f1 e.f2 (strOfNums ds) (str_size (p := p) d2)).2
      have f2 := (follow_both p L T D (strOfNums (nrm [] (ltrs s))) (str_size (p := p) n1)).2
      have f3 := (normal_both p (strOfNums (nrm [] (ltrs s))) (str_size (p := p) n1)).2
      rw [r1] at f1
      rw [e2] at f2
      rw [e3] at f3
      rw [e0] at h1 ⊢
      rw [e1, d1, h1]
      refine Ev.up ?_
      simp only [laws_FnSteps.j4, if_true]
      refine Ev.bind f1 ?_
      simp only [if_true, beq_self_eq_true, Bool.not_true, Bool.or_self, Bool.false_eq_true, if_false, bne_self_eq_false]
      refine Ev.up ?_
      simp only [laws_FnSteps.j5, Bool.false_eq_true, if_false]
      refine Ev.bind f2 (Ev.bind f3 ?_)
      simp only [if_true, beq_self_eq_true, Bool.and_self]
      exact Ev.now _
  · have e0 : folR p L T D s = (0, 0, 0, stepsCodeW p L T D s) := by unfold folR; rw [if_neg h]
    rw [e0] at h1 ⊢
    refine Ev.up ?_
    simp only [laws_FnSteps.j4, if_neg h, h1, beq_self_eq_true, Bool.and_self, if_true]
    exact Ev.now _
theorem FnSteps : laws_FnSteps.Pure := by
  intro c _ _ hwf
  refine Ev.rounds ?_
  unfold laws_FnSteps.f laws_big.f
  simp only [Option.bind_some]
  by_cases hbig : (c.length : Int) > 4096
  · simp only [decide_eq_true hbig, if_true]; exact Ev.now _
  simp only [decide_eq_false hbig, Bool.false_eq_true, if_false]
  have hb : ∀ x ∈ c, 0 ≤ x ∧ x ≤ 255 := fun x hx => by
    have := hwf x hx
    simp only [Lit.wf, Bool.and_eq_true, decide_eq_true_eq] at this
    exact ⟨this.1, this.2⟩
  obtain ⟨p, L, T, D, s, e1, hs⟩ := drawFollow_ok hb (by omega)
  obtain ⟨⟨q, A, B, E, A', B', E'⟩, e2⟩ := drawWay_ok hb (show c.length ≤ 5000 by omega)
  obtain ⟨f1, f2⟩ := follow_both p L T D s hs
  obtain ⟨r, r1, r2, r3, r4⟩ := reverse_both p L T D s hs
  obtain ⟨n1, n2⟩ := normal_both p s hs
  obtain ⟨w, w1, w2, w3⟩ := way_both q A B E A' B' E'
  have fin := steps_j4 p L T D s hs r r3 r4
  refine Ev.bind e1 (Ev.bind f2 (Ev.bind f1 ?_))
  simp only [if_true, beq_self_eq_true, Bool.not_true, Bool.or_self]
  refine Ev.up ?_
  simp only [laws_FnSteps.j0, Bool.false_eq_true, if_false]
  refine Ev.bind r2 (Ev.bind r1 ?_)
  simp only [if_true, bne_self_eq_false]
  refine Ev.up ?_
  simp only [laws_FnSteps.j1, Bool.false_eq_true, if_false]
  refine Ev.bind n2 (Ev.bind n1 ?_)
  simp only [if_true, bne_self_eq_false]
  refine Ev.up ?_
  simp only [laws_FnSteps.j2, Bool.false_eq_true, if_false]
  refine Ev.bind e2 (Ev.bind w2 (Ev.bind w1 ?_))
  simp only [if_true, bne_self_eq_false]
  refine Ev.up ?_
  simp only [laws_FnSteps.j3, Bool.false_eq_true, if_false]
  by_cases h0 : w.2 = 0
  · obtain ⟨⟨b1, b2⟩, ds, d1, d2, d3, d4⟩ := w3 h0
    have hp := (ball_parts b1).1
    have j1 := jnW_bd b1 b2
    have l1 := (ball_parts b1).2.1
    have l2 := (ball_parts b2).2.1
    have hl : ds.length ≤ 40 := by omega
    obtain ⟨z1, z2⟩ := steps_str hp hl d3
    have g := (follow_both q A B E (strOfNums ds) (str_size (p := q) hl)).2
    have g2 : folR q A B E (strOfNums ds) = (A', B', E', 0) := by
      unfold folR; rw [if_pos (code_of b1 z1), z2, d4]; rfl
    rw [g2] at g
    simp only [if_pos h0, d1]
    refine Ev.bind (dist_ev b1 b2) (Ev.bind g ?_)
    simp only [if_true, strOfNums_size, d2, beq_self_eq_true, Bool.not_true, Bool.or_self, Bool.false_eq_true, if_false]
    exact fin
  · simp only [if_neg h0]
    exact fin

end Go.Proofs.Ytgoeelhiffbjlaa.Pure
