/- For every list of bytes, what FnPlaces draws of it meets the law: balls of places lead back to their places, at the distance of their depths, children have their parent, and both texts answer alike; no condition beyond the row's. -/
import Derived.Test.YtgoeelhiffbjlaaQPx74
import Derived.Test.YtgoeelhiffbjlaaWSized
namespace Go.Proofs.Ytgoeelhiffbjlaa.PrintWords
open Go.ChangeShapes Go.WideShapes
/-- The name by which the printed row calls the word. -/
theorem sized_ints {H : Type} {enc : TypeId × Value → H} {P : Program} {W : World} {base : Nat} {spare : Nat → Bool} {held : Bool} {t e : TypeId} {k : IntKind} {a : Option Addr} {len cap : Nat} {d : DataW H} {ps : List MemPlace} {ts : List TypeId} {ds : List (DataW H)} {j : Nat}
    (hsz : (DataW.weightsEach P ts ds).all (· ≤ reachBytes) = true) (ht : ts[j]? = some t) (hd : ds[j]? = some d) (hu : P.underlying t = some (.slice e)) (he : P.underlying e = some (.int k)) (hc : P.cellsOf e = 1) {B : Nat} (hB : P.bytesOf e = B)
    (h : DataW.Trod enc P W base spare held t (.slice a len cap) d ps) : len * B ≤ 140737488351232 :=
  Go.Proofs.YtgoeelhiffbjlaaW.PrintWords.sized_ints hsz ht hd hu he hc hB h
end Go.Proofs.Ytgoeelhiffbjlaa.PrintWords
namespace Go.Proofs.Ytgoeelhiffbjlaa.Pure
open Go.RowKit Go.Proofs.Ytgoeelhiffbjlaa.QP Go.Proofs.YtgoeelhiffbjlaaW.PrintWords Go.Proofs.YtgoeelhiffbjlaaW.PrintLast
set_option linter.unusedVariables false
set_option linter.unusedSimpArgs false
set_option linter.unusedSectionVars false

theorem wid {n : Int} (h0 : -9223372036854775808 ≤ n) (h1 : n ≤ 9223372036854775807) : wrap64 n = n := by unfold wrap64; omega
theorem Ev.val {α : Type} {o : Option α} {r : α} (h : o = some r) : Ev (fun _ => o) r := ⟨0, fun _ _ => h⟩
theorem Ev.bindv {α β : Type} {o : Option α} {f : Nat → α → Option β} {a : α} {r : β} (h : o = some a) (k : Ev (fun n => f n a) r) : Ev (fun n => o.bind (f n)) r := by
  subst h; exact k

def powW (p : Int) : Nat → Int → Int
  | 0, acc => acc
  | n + 1, acc => powW p n (wrap64 (acc * p))

def primeB (p : Int) : Bool := p == 2 || (p == 3 || (p == 5 || p == 7))
theorem prime_cases {p : Int} (h : primeB p = true) : p = 2 ∨ p = 3 ∨ p = 5 ∨ p = 7 := by
  simpa [primeB] using h
theorem prime_lo {p : Int} (h : primeB p = true) : 2 ≤ p := by rcases prime_cases h with h | h | h | h <;> omega
theorem prime_hi {p : Int} (h : primeB p = true) : p ≤ 7 := by rcases prime_cases h with h | h | h | h <;> omega

theorem ipow_pos {p : Int} (hp : 1 ≤ p) (n : Nat) : (1 : Int) ≤ p ^ n := by
  have := Int.pow_pos (n := p) (m := n) (by omega)
  omega
theorem ipow_mono {p : Int} (hp : 1 ≤ p) {m n : Nat} (h : m ≤ n) : p ^ m ≤ p ^ n := by
  obtain ⟨d, rfl⟩ : ∃ d, n = m + d := ⟨n - m, by omega⟩
  rw [Int.pow_add]
  have h1 := ipow_pos hp m
  have h2 := ipow_pos hp d
  have := Int.mul_le_mul_of_nonneg_left h2 (show 0 ≤ p ^ m by omega)
  rwa [Int.mul_one] at this
theorem powW_fit (p : Int) (hp : 1 ≤ p) (n : Nat) : ∀ (acc : Int), 0 ≤ acc → acc * p ^ n ≤ 9223372036854775807 → powW p n acc = acc * p ^ n := by
  induction n with
  | zero => intro acc _ _; simp [powW]
  | succ n ih =>
    intro acc h0 h
    have hpn : (1 : Int) ≤ p ^ n := ipow_pos hp n
    have e : acc * p ^ (n + 1) = acc * p * p ^ n := by rw [Int.pow_succ, Int.mul_comm (p ^ n) p, ← Int.mul_assoc]
    have h1 : 0 ≤ acc * p := Int.mul_nonneg h0 (by omega)
    have h2 : acc * p ≤ acc * p * p ^ n := by
      have := Int.mul_le_mul_of_nonneg_left hpn h1
      rwa [Int.mul_one] at this
    simp only [powW]
    rw [wid (by omega) (by omega), ih _ h1 (by omega), e]
theorem pow_le_top {p : Int} (h : primeB p = true) (n : Nat) (hn : n ≤ 22) : p ^ n ≤ 9223372036854775807 := by
  have hp := prime_lo h
  have h1 : p ^ n ≤ p ^ 22 := ipow_mono (by omega) hn
  have h2 : p ^ 22 ≤ 9223372036854775807 := by
    rcases prime_cases h with rfl | rfl | rfl | rfl <;> decide
  omega
theorem powW_prime {p : Int} (h : primeB p = true) (n : Nat) (hn : n ≤ 22) : powW p n 1 = p ^ n := by
  have hp := prime_lo h
  rw [powW_fit p (by omega) n 1 (by omega) (by rw [Int.one_mul]; exact pow_le_top h n hn), Int.one_mul]

def ballB (p L T D : Int) : Bool :=
  primeB p && (decide (-6 ≤ L ∧ L ≤ 6) && (decide (0 ≤ D ∧ D ≤ 6) && (if L + D ≤ 0 then T == 0 && D == 0 else decide (0 ≤ T ∧ T < p ^ (L + D).toNat) && (D == 0 || !(Int.tmod T p == 0)))))

def valF (p : Int) : Nat → Int → Nat
  | 0, _ => 0
  | f + 1, n => if n % p = 0 then valF p f (n / p) + 1 else 0
def val (p n : Int) : Nat := valF p n.natAbs n
theorem valF_spec {p : Int} (hp : 2 ≤ p) (f : Nat) : ∀ n : Int, n ≠ 0 → n.natAbs ≤ f → ∃ u, n = p ^ (valF p f n) * u ∧ ¬ p ∣ u := by
  induction f with
  | zero => intro n h0 hf; omega
  | succ f ih =>
    intro n h0 hf
    unfold valF
    by_cases h : n % p = 0
    · rw [if_pos h]
      obtain ⟨q, hq⟩ := Int.dvd_of_emod_eq_zero h
      have hq0 : q ≠ 0 := by intro e; subst e; simp at hq; exact h0 hq
      have hdiv : n / p = q := by rw [hq]; exact Int.mul_ediv_cancel_left q (by omega)
      rw [hdiv]
      have hlt : q.natAbs ≤ f := by
        have : n.natAbs = p.natAbs * q.natAbs := by rw [hq, Int.natAbs_mul]
        have h2 : 2 * q.natAbs ≤ p.natAbs * q.natAbs := Nat.mul_le_mul_right _ (by omega)
        omega
      obtain ⟨u, hu, hn⟩ := ih q hq0 hlt
      refine ⟨u, ?_, hn⟩
      conv => lhs; rw [hq, hu]
      rw [Int.pow_succ', Int.mul_assoc]
    · rw [if_neg h]
      exact ⟨n, by simp, fun hd => h (Int.emod_eq_zero_of_dvd hd)⟩
theorem val_spec {p n : Int} (hp : 2 ≤ p) (h : n ≠ 0) : ∃ u, n = p ^ (val p n) * u ∧ ¬ p ∣ u := valF_spec hp _ n h (Nat.le_refl _)
theorem pow_unique {p u u' : Int} (hp : 2 ≤ p) (hu : ¬ p ∣ u) (hu' : ¬ p ∣ u') : ∀ (v v' : Nat), p ^ v * u = p ^ v' * u' → v = v' := by
  have key : ∀ (v d : Nat) (x x' : Int), ¬ p ∣ x → p ^ v * x = p ^ (v + (d + 1)) * x' → False := by
    intro v d x x' hx h
    rw [Int.pow_add, Int.mul_assoc] at h
    have h2 : x = p ^ (d + 1) * x' := Int.eq_of_mul_eq_mul_left (Int.pow_ne_zero (by omega)) h
    apply hx
    rw [h2, Int.pow_succ', Int.mul_assoc]
    exact Int.dvd_mul_right _ _
  intro v v' h
  rcases Nat.lt_trichotomy v v' with h1 | h1 | h1
  · obtain ⟨d, rfl⟩ : ∃ d, v' = v + (d + 1) := ⟨v' - v - 1, by omega⟩
    exact (key v d u u' hu h).elim
  · exact h1
  · obtain ⟨d, rfl⟩ : ∃ d, v = v' + (d + 1) := ⟨v - v' - 1, by omega⟩
    exact (key v' d u' u hu' h.symm).elim
theorem val_eq {p n u : Int} {v : Nat} (hp : 2 ≤ p) (h : n = p ^ v * u) (hu : ¬ p ∣ u) : val p n = v := by
  have hn : n ≠ 0 := by
    intro e; rw [e] at h
    rcases Int.mul_eq_zero.1 h.symm with h | h
    · exact Int.pow_ne_zero (by omega) h
    · exact hu (by rw [h]; exact Int.dvd_zero p)
  obtain ⟨u', h', hu'⟩ := val_spec hp hn
  exact pow_unique hp hu' hu _ _ (h'.symm.trans h)
theorem val_pow_mul {p e : Int} (j : Nat) (hp : 2 ≤ p) (he : e ≠ 0) : val p (p ^ j * e) = j + val p e := by
  obtain ⟨u, h, hu⟩ := val_spec hp he
  refine val_eq hp (u := u) ?_ hu
  conv => lhs; rw [h]
  rw [Int.pow_add, Int.mul_assoc]
theorem val_dvd {p n : Int} (hp : 2 ≤ p) (h : n ≠ 0) (j : Nat) : p ^ j ∣ n ↔ j ≤ val p n := by
  obtain ⟨u, hu, hn⟩ := val_spec hp h
  constructor
  · rintro ⟨q, hq⟩
    rcases Nat.lt_or_ge (val p n) j with h1 | h1
    · exfalso
      obtain ⟨d, hd⟩ : ∃ d, j = val p n + (d + 1) := ⟨j - val p n - 1, by omega⟩
      have h2 : p ^ (val p n) * u = p ^ (val p n) * (p ^ (d + 1) * q) := by
        have e : n = p ^ (val p n) * (p ^ (d + 1) * q) := by rw [← Int.mul_assoc, ← Int.pow_add, ← hd]; exact hq
        exact hu.symm.trans e
      have h3 := Int.eq_of_mul_eq_mul_left (Int.pow_ne_zero (by omega)) h2
      apply hn
      rw [h3, Int.pow_succ', Int.mul_assoc]
      exact Int.dvd_mul_right _ _
    · exact h1
  · intro h1
    obtain ⟨d, hd⟩ : ∃ d, val p n = j + d := ⟨val p n - j, by omega⟩
    refine ⟨p ^ d * u, ?_⟩
    conv => lhs; rw [hu, hd, Int.pow_add, Int.mul_assoc]
theorem val_le_of_lt {p n : Int} (hp : 2 ≤ p) (h : n ≠ 0) (j : Nat) (hlt : n.natAbs < 2 ^ j) : val p n < j := by
  rcases Nat.lt_or_ge (val p n) j with h1 | h1
  · exact h1
  · exfalso
    obtain ⟨q, hq⟩ := (val_dvd hp h j).2 h1
    have hq0 : q ≠ 0 := by intro e; subst e; simp at hq; exact h hq
    have : n.natAbs = p.natAbs ^ j * q.natAbs := by rw [hq, Int.natAbs_mul, Int.natAbs_pow]
    have h2 : 2 ^ j ≤ p.natAbs ^ j := Nat.pow_le_pow_left (by omega) j
    have h3 : p.natAbs ^ j * 1 ≤ p.natAbs ^ j * q.natAbs := Nat.mul_le_mul_left _ (by omega)
    omega
theorem tdiv_bdv {x M : Int} (g : Int) (hx : -M ≤ x ∧ x ≤ M) : -M ≤ Int.tdiv x g ∧ Int.tdiv x g ≤ M := by
  have := Int.natAbs_tdiv_le_natAbs x g
  omega

theorem pow_13 {p : Int} (hp : primeB p = true) (n : Nat) (h : n ≤ 12) : p ^ n ≤ 13841287201 := by
  have hp2 := prime_lo hp
  have h1 : p ^ n ≤ p ^ 12 := ipow_mono (by omega) h
  have h2 : p ^ 12 ≤ 13841287201 := by rcases prime_cases hp with rfl | rfl | rfl | rfl <;> decide
  omega
theorem pow_6 {p : Int} (hp : primeB p = true) (n : Nat) (h : n ≤ 6) : p ^ n ≤ 117649 := by
  have hp2 := prime_lo hp
  have h1 : p ^ n ≤ p ^ 6 := ipow_mono (by omega) h
  have h2 : p ^ 6 ≤ 117649 := by rcases prime_cases hp with rfl | rfl | rfl | rfl <;> decide
  omega

def markOf (p T D : Int) : Int := T * p ^ (6 - D).toNat
def ofM (p L X : Int) : Int × Int × Int :=
  let x := X % p ^ (L + 6).toNat
  let dn : Int := if x = 0 then 0 else if (val p x : Int) < 6 then 6 - val p x else 0
  (L, x / p ^ (6 - dn).toNat, dn)
theorem ofM_of {p L X T D : Int} (hp : 2 ≤ p) (hx : X % p ^ (L + 6).toNat = T * p ^ (6 - D).toNat) (hD : 0 ≤ D ∧ D ≤ 6) (hu : D = 0 ∨ ¬ p ∣ T) : ofM p L X = (L, T, D) := by
  unfold ofM
  simp only [hx]
  have hpow : ∀ j : Nat, p ^ j ≠ 0 := fun j => Int.pow_ne_zero (by omega)
  by_cases h0 : T * p ^ (6 - D).toNat = 0
  · have hT : T = 0 := by
      rcases Int.mul_eq_zero.1 h0 with h | h
      · exact h
      · exact absurd h (hpow _)
    have hD0 : D = 0 := by
      rcases hu with h | h
      · exact h
      · exact absurd (by rw [hT]; exact Int.dvd_zero p) h
    subst hT; subst hD0
    simp
  · rw [if_neg h0]
    have hT : T ≠ 0 := by intro e; rw [e] at h0; simp at h0
    have hv : val p (T * p ^ (6 - D).toNat) = (6 - D).toNat + val p T := by rw [Int.mul_comm]; exact val_pow_mul _ hp hT
    have hdn : (if ((val p (T * p ^ (6 - D).toNat) : Nat) : Int) < 6 then 6 - ((val p (T * p ^ (6 - D).toNat) : Nat) : Int) else 0) = D := by
      rw [hv]
      rcases hu with h | h
      · rw [if_neg (by omega)]; exact h.symm
      · have : val p T = 0 := val_eq hp (u := T) (by simp) h
        rw [this]
        by_cases hd : D = 0
        · rw [if_neg (by omega)]; exact hd.symm
        · rw [if_pos (by omega)]; omega
    rw [hdn, Int.mul_ediv_cancel _ (hpow _)]
theorem ofM_mod (p L X : Int) : ofM p L (X % p ^ (L + 6).toNat) = ofM p L X := by unfold ofM; simp only [Int.emod_emod]
theorem ofM_back {p L X : Int} (hp : 2 ≤ p) : (ofM p L X).2.1 * p ^ (6 - (ofM p L X).2.2).toNat = X % p ^ (L + 6).toNat ∧ (0 ≤ (ofM p L X).2.2 ∧ (ofM p L X).2.2 ≤ 6) ∧ ((ofM p L X).2.2 = 0 ∨ ¬ p ∣ (ofM p L X).2.1) := by
  unfold ofM
  simp only
  generalize hx : X % p ^ (L + 6).toNat = x
  by_cases h0 : x = 0
  · rw [if_pos h0]; simp [h0]
  · rw [if_neg h0]
    obtain ⟨u, hu, hn⟩ := val_spec hp h0
    have hpow : ∀ j : Nat, p ^ j ≠ 0 := fun j => Int.pow_ne_zero (by omega)
    by_cases hv : ((val p x : Nat) : Int) < 6
    · rw [if_pos hv]
      have e : (6 - (6 - ((val p x : Nat) : Int))).toNat = val p x := by omega
      rw [e]
      have hq : x / p ^ val p x = u := by
        conv => lhs; lhs; rw [hu]
        exact Int.mul_ediv_cancel_left _ (hpow _)
      rw [hq]
      refine ⟨?_, by omega, .inr hn⟩
      rw [Int.mul_comm]; exact hu.symm
    · rw [if_neg hv]
      refine ⟨?_, by omega, .inl rfl⟩
      have hd : p ^ (6 - (0 : Int)).toNat ∣ x := (val_dvd hp h0 _).2 (by omega)
      exact Int.ediv_mul_cancel hd
theorem ofM_inj {p L X Y : Int} (hp : 2 ≤ p) : ofM p L X = ofM p L Y ↔ X % p ^ (L + 6).toNat = Y % p ^ (L + 6).toNat := by
  constructor
  · intro h
    rw [← (ofM_back (X := X) hp).1, ← (ofM_back (X := Y) hp).1, h]
  · intro h
    rw [← ofM_mod p L X, h, ofM_mod]
theorem ball_parts {p L T D : Int} (h : ballB p L T D = true) : primeB p = true ∧ (-6 ≤ L ∧ L ≤ 6) ∧ (0 ≤ D ∧ D ≤ 6) ∧ (L + D ≤ 0 → T = 0 ∧ D = 0) ∧ (0 < L + D → (0 ≤ T ∧ T < p ^ (L + D).toNat) ∧ (D = 0 ∨ ¬ p ∣ T)) := by
  unfold ballB at h
  simp only [Bool.and_eq_true, decide_eq_true_eq] at h
  obtain ⟨h1, h2, h3, h4⟩ := h
  refine ⟨h1, h2, h3, ?_, ?_⟩
  · intro hn; rw [if_pos hn] at h4; simpa using h4
  · intro hn
    rw [if_neg (by omega)] at h4
    simp only [Bool.and_eq_true, decide_eq_true_eq, Bool.or_eq_true, beq_iff_eq, Bool.not_eq_true', beq_eq_false_iff_ne] at h4
    refine ⟨h4.1, ?_⟩
    rcases h4.2 with h5 | h5
    · exact .inl h5
    · exact .inr (fun hd => h5 (Int.tmod_eq_zero_of_dvd hd))
theorem mark_lt {p L T D : Int} (h : ballB p L T D = true) : 0 ≤ markOf p T D ∧ markOf p T D < p ^ (L + 6).toNat := by
  obtain ⟨hp, hL, hD, h0, h1⟩ := ball_parts h
  have hp2 := prime_lo hp
  unfold markOf
  by_cases hn : L + D ≤ 0
  · rw [(h0 hn).1]
    have := ipow_pos (p := p) (by omega) (L + 6).toNat
    omega
  · obtain ⟨⟨a, b⟩, _⟩ := h1 (by omega)
    have hq := ipow_pos (p := p) (by omega) (6 - D).toNat
    refine ⟨Int.mul_nonneg a (by omega), ?_⟩
    have e : p ^ (L + 6).toNat = p ^ (L + D).toNat * p ^ (6 - D).toNat := by rw [← Int.pow_add]; congr 1; omega
    rw [e]
    exact Int.mul_lt_mul_of_pos_right b (by omega)
theorem mark_mod {p L T D : Int} (h : ballB p L T D = true) : markOf p T D % p ^ (L + 6).toNat = markOf p T D := Int.emod_eq_of_lt (mark_lt h).1 (mark_lt h).2
theorem ball_unit {p L T D : Int} (h : ballB p L T D = true) : D = 0 ∨ ¬ p ∣ T := by
  obtain ⟨_, _, _, h0, h1⟩ := ball_parts h
  by_cases hn : L + D ≤ 0
  · exact .inl (h0 hn).2
  · exact (h1 (by omega)).2
theorem ofM_mark {p L T D : Int} (h : ballB p L T D = true) : ofM p L (markOf p T D) = (L, T, D) :=
  ofM_of (prime_lo (ball_parts h).1) (mark_mod h) (ball_parts h).2.2.1 (ball_unit h)
theorem ofM_ball {p L X : Int} (hp : primeB p = true) (hL : -6 ≤ L ∧ L ≤ 6) : ballB p L (ofM p L X).2.1 (ofM p L X).2.2 = true := by
  have hp2 := prime_lo hp
  obtain ⟨hx, hD, hu⟩ := ofM_back (p := p) (L := L) (X := X) hp2
  have hpos := ipow_pos (p := p) (by omega) (L + 6).toNat
  have hx0 := Int.emod_nonneg X (show p ^ (L + 6).toNat ≠ 0 by omega)
  have hx1 := Int.emod_lt_of_pos X (show 0 < p ^ (L + 6).toNat by omega)
  generalize (ofM p L X).2.1 = T at *
  generalize (ofM p L X).2.2 = D at *
  have hq := ipow_pos (p := p) (by omega) (6 - D).toNat
  rw [← hx] at hx0 hx1
  have hT0 : 0 ≤ T := by
    rcases Int.lt_or_le T 0 with h | h
    · have := Int.mul_neg_of_neg_of_pos h (show 0 < p ^ (6 - D).toNat by omega); omega
    · exact h
  unfold ballB
  rw [hp, decide_eq_true hL, decide_eq_true hD, Bool.true_and, Bool.true_and, Bool.true_and]
  by_cases hn : L + D ≤ 0
  · rw [if_pos hn]
    have hT : T = 0 := by
      rcases Int.lt_or_eq_of_le hT0 with h | h
      · exfalso
        have e : p ^ (6 - D).toNat = p ^ (L + 6).toNat * p ^ (-(L + D)).toNat := by rw [← Int.pow_add]; congr 1; omega
        have h2 := ipow_pos (p := p) (by omega) (-(L + D)).toNat
        have h3 : p ^ (L + 6).toNat * 1 ≤ p ^ (L + 6).toNat * p ^ (-(L + D)).toNat := Int.mul_le_mul_of_nonneg_left (by omega) (by omega)
        have h4 : 1 * p ^ (6 - D).toNat ≤ T * p ^ (6 - D).toNat := Int.mul_le_mul_of_nonneg_right (by omega) (by omega)
        omega
      · exact h.symm
    have hD0 : D = 0 := by
      rcases hu with h | h
      · exact h
      · exact absurd (by rw [hT]; exact Int.dvd_zero p) h
    simp [hT, hD0]
  · rw [if_neg hn]
    have hlt : T < p ^ (L + D).toNat := by
      have e : p ^ (L + 6).toNat = p ^ (L + D).toNat * p ^ (6 - D).toNat := by rw [← Int.pow_add]; congr 1; omega
      rw [e] at hx1
      exact Int.lt_of_mul_lt_mul_right hx1 (by omega)
    rw [decide_eq_true (show 0 ≤ T ∧ T < p ^ (L + D).toNat from ⟨hT0, hlt⟩), Bool.true_and]
    rcases hu with h | h
    · simp [h]
    · have : (Int.tmod T p == 0) = false := beq_eq_false_iff_ne.2 (fun e => h (Int.dvd_of_tmod_eq_zero e))
      simp [this]
theorem ball_num {p L T D : Int} (h : ballB p L T D = true) : 0 ≤ T ∧ T ≤ 13841287201 := by
  obtain ⟨hp, hL, hD, h0, h1⟩ := ball_parts h
  have hp2 := prime_lo hp
  by_cases hn : L + D ≤ 0
  · rw [(h0 hn).1]; omega
  · have := (h1 (by omega)).1
    have := pow_13 hp (L + D).toNat (by omega)
    omega

theorem impl_power_l (p N : Int) (hN : N ≤ 9223372036854775807) (n : Nat) : ∀ (acc i : Int), 0 ≤ i → (i + n = N ∨ (n = 0 ∧ N ≤ i)) → Ev (fun k => impl_power.l0 k p acc N i) (powW p n acc) := by
  induction n with
  | zero =>
    intro acc i hi hx
    exact Ev.step (f := fun _ => some acc) (fun k => by simp only [impl_power.l0]; rw [if_neg (by omega)]) (Ev.now _)
  | succ n ih =>
    intro acc i hi hx
    exact Ev.step (f := fun k => impl_power.l0 k p (wrap64 (acc * p)) N (i + 1)) (fun k => by
      simp only [impl_power.l0]; rw [if_pos (by omega), show wrap64 (i + 1) = i + 1 from wid (by omega) (by omega)]) (ih _ (i + 1) (by omega) (by omega))
theorem impl_power_ev (p x : Int) (h : x ≤ 9223372036854775807) : Ev (fun k => impl_power.f k p x) (powW p x.toNat 1) := by
  refine Ev.congr (f := fun k => impl_power.l0 k p 1 x 0) (fun k => rfl) (impl_power_l p x h x.toNat 1 0 (by omega) (by omega))

theorem impl_mark_ev {p L T D : Int} (h : ballB p L T D = true) : Ev (fun k => impl_mark.f k p L T D) (markOf p T D) := by
  obtain ⟨hp, hL, hD, _, _⟩ := ball_parts h
  have hp2 := prime_lo hp
  obtain ⟨m0, m1⟩ := mark_lt h
  have m2 := pow_13 hp (L + 6).toNat (by omega)
  unfold impl_mark.f
  rw [wid (n := 6 - D) (by omega) (by omega)]
  refine Ev.bind (impl_power_ev p _ (by omega)) ?_
  rw [powW_prime hp _ (by omega), show T * p ^ (6 - D).toNat = markOf p T D from rfl, wid (by omega) (by omega)]
  exact Ev.now _

theorem impl_valuation_l (p : Int) (hp : 2 ≤ p) (v : Nat) : ∀ (n u acc : Int), n = p ^ v * u → ¬ p ∣ u → n ≠ 0 → -4611686018427387904 ≤ n → n ≤ 4611686018427387904 → 0 ≤ acc → acc + v ≤ 4611686018427387904 → Ev (fun k => impl_valuation.l0 k p n acc) (acc + v) := by
  induction v with
  | zero =>
    intro n u acc h hu h0 h1 h2 h3 h4
    refine Ev.step (f := fun _ => some acc) (fun k => ?_) (by simp; exact Ev.now _)
    simp only [impl_valuation.l0]
    rw [if_neg (by omega), if_neg]
    intro e
    rw [h] at e
    exact hu (by simpa using Int.dvd_of_tmod_eq_zero e)
  | succ v ih =>
    intro n u acc h hu h0 h1 h2 h3 h4
    have hn : n = p * (p ^ v * u) := by rw [h, Int.pow_succ', Int.mul_assoc]
    have hm : Int.tmod n p = 0 := by rw [hn]; exact Int.mul_tmod_right p _
    have hd : Int.tdiv n p = p ^ v * u := by rw [hn]; exact Int.mul_tdiv_cancel_left _ (by omega)
    have hb := tdiv_bdv p (show -4611686018427387904 ≤ n ∧ n ≤ 4611686018427387904 from ⟨h1, h2⟩)
    have hne : p ^ v * u ≠ 0 := by intro e; rw [e] at hn; simp at hn; exact h0 hn
    refine Ev.step (f := fun k => impl_valuation.l0 k p (p ^ v * u) (acc + 1)) (fun k => ?_) ?_
    · simp only [impl_valuation.l0]
      rw [if_neg (by omega), if_pos hm, hd]
      rw [hd] at hb
      rw [wid (n := p ^ v * u) (by omega) (by omega), wid (n := acc + 1) (by omega) (by omega)]
    · rw [hd] at hb
      have := ih (p ^ v * u) u (acc + 1) rfl hu hne hb.1 hb.2 (by omega) (by omega)
      rw [show acc + ((v + 1 : Nat) : Int) = acc + 1 + (v : Int) from by omega]
      exact this
def valW (p n : Int) : Int := if n = 0 then 1000 else val p n
theorem impl_valuation_ev {p n : Int} (hp : 2 ≤ p) (h1 : -4611686018427387904 ≤ n) (h2 : n ≤ 4611686018427387904) : Ev (fun k => impl_valuation.f k p n) (valW p n) := by
  unfold impl_valuation.f valW
  by_cases h0 : n = 0
  · simp only [if_pos h0]; exact Ev.now _
  · simp only [if_neg h0]
    obtain ⟨u, h, hu⟩ := val_spec hp h0
    have hv := val_le_of_lt hp h0 63 (by omega)
    have := impl_valuation_l p hp (val p n) n u 0 h hu h0 h1 h2 (by omega) (by omega)
    rw [Int.zero_add] at this
    exact this

theorem spec_l01Val_l (p : Int) (hp : 2 ≤ p) (v : Nat) : ∀ (n u acc : Int), n = p ^ v * u → ¬ p ∣ u → n ≠ 0 → -4611686018427387904 ≤ n → n ≤ 4611686018427387904 → 0 ≤ acc → acc + v ≤ 4611686018427387904 → Ev (fun k => spec_l01Val.l0 k p n acc) (acc + v) := by
  induction v with
  | zero =>
    intro n u acc h hu h0 h1 h2 h3 h4
    refine Ev.step (f := fun _ => some acc) (fun k => ?_) (by simp; exact Ev.now _)
    simp only [spec_l01Val.l0]
    rw [if_neg (by omega), if_neg]
    intro e
    rw [h] at e
    exact hu (by simpa using Int.dvd_of_tmod_eq_zero e)
  | succ v ih =>
    intro n u acc h hu h0 h1 h2 h3 h4
    have hn : n = p * (p ^ v * u) := by rw [h, Int.pow_succ', Int.mul_assoc]
    have hm : Int.tmod n p = 0 := by rw [hn]; exact Int.mul_tmod_right p _
    have hd : Int.tdiv n p = p ^ v * u := by rw [hn]; exact Int.mul_tdiv_cancel_left _ (by omega)
    have hb := tdiv_bdv p (show -4611686018427387904 ≤ n ∧ n ≤ 4611686018427387904 from ⟨h1, h2⟩)
    have hne : p ^ v * u ≠ 0 := by intro e; rw [e] at hn; simp at hn; exact h0 hn
    refine Ev.step (f := fun k => spec_l01Val.l0 k p (p ^ v * u) (acc + 1)) (fun k => ?_) ?_
    · simp only [spec_l01Val.l0]
      rw [if_neg (by omega), if_pos hm, hd]
      rw [hd] at hb
      rw [wid (n := p ^ v * u) (by omega) (by omega), wid (n := acc + 1) (by omega) (by omega)]
    · rw [hd] at hb
      have := ih (p ^ v * u) u (acc + 1) rfl hu hne hb.1 hb.2 (by omega) (by omega)
      rw [show acc + ((v + 1 : Nat) : Int) = acc + 1 + (v : Int) from by omega]
      exact this
theorem spec_l01Val_ev {p n : Int} (hp : 2 ≤ p) (h0 : n ≠ 0) (h1 : -4611686018427387904 ≤ n) (h2 : n ≤ 4611686018427387904) : Ev (fun k => spec_l01Val.f k p n) (val p n : Int) := by
  obtain ⟨u, h, hu⟩ := val_spec hp h0
  have hv := val_le_of_lt hp h0 63 (by omega)
  have := spec_l01Val_l p hp (val p n) n u 0 h hu h0 h1 h2 (by omega) (by omega)
  rw [Int.zero_add] at this
  unfold spec_l01Val.f
  exact this

theorem spec_l01Power_l (p : Int) (n : Nat) : ∀ (x acc : Int), (n : Int) ≤ 9223372036854775807 → (x = n ∨ (n = 0 ∧ x ≤ 0)) → Ev (fun k => spec_l01Power.l0 k p x acc) (powW p n acc) := by
  induction n with
  | zero =>
    intro x acc _ hx
    exact Ev.step (f := fun _ => some acc) (fun k => by simp only [spec_l01Power.l0]; rw [if_neg (by omega)]) (Ev.now _)
  | succ n ih =>
    intro x acc hn hx
    have hx' : x = n + 1 := by omega
    exact Ev.step (f := fun k => spec_l01Power.l0 k p n (wrap64 (acc * p))) (fun k => by
      simp only [spec_l01Power.l0]; rw [if_pos (by omega), show wrap64 (x - 1) = (n : Int) from by rw [hx', wid (by omega) (by omega)]; omega]) (ih n _ (by omega) (.inl rfl))
theorem spec_l01Power_ev (p x : Int) (h : x ≤ 9223372036854775807) : Ev (fun k => spec_l01Power.f k p x) (powW p x.toNat 1) := by
  refine Ev.congr (f := fun k => spec_l01Power.l0 k p x 1) (fun k => rfl) (spec_l01Power_l p x.toNat x 1 (by omega) (by omega))

theorem impl_isLevel_eq (L : Int) : impl_isLevel.f L = some (decide (-6 ≤ L ∧ L ≤ 6)) := by
  unfold impl_isLevel.f
  by_cases h : L ≥ -6
  · rw [if_pos h]; congr 1; exact decide_eq_decide.2 ⟨fun h2 => ⟨h, h2⟩, fun h2 => h2.2⟩
  · rw [if_neg h]; congr 1; exact (decide_eq_false (fun h2 => h h2.1)).symm

theorem tmod_cast {a m : Int} (h : 0 ≤ a) : Int.tmod a m = a % m := Int.tmod_eq_emod_of_nonneg h
theorem tdiv_cast {a m : Int} (h : 0 ≤ a) : Int.tdiv a m = a / m := Int.tdiv_eq_ediv_of_nonneg h
theorem tmod_lt' {a m : Int} (hm : 0 < m) : -m < Int.tmod a m ∧ Int.tmod a m < m := by
  have h1 := Int.natAbs_tmod a m
  have h2 := Nat.mod_lt a.natAbs (show 0 < m.natAbs by omega)
  omega
theorem emod_mul_emod' (a b m : Int) : a % m * b % m = a * b % m := by rw [Int.mul_emod (a % m) b m, Int.emod_emod, ← Int.mul_emod]
theorem modW {a m : Int} (hm : 1 ≤ m) (hm2 : m ≤ 2305843009213693952) : Int.tmod (wrap64 (Int.tmod a m + m)) m = a % m := by
  obtain ⟨h1, h2⟩ := tmod_lt' (a := a) (show 0 < m by omega)
  rw [wid (by omega) (by omega), tmod_cast (by omega), Int.add_emod_right]
  have e := Int.tmod_add_mul_tdiv a m
  conv => rhs; rw [← e, Int.add_mul_emod_self_left]

theorem impl_mod_eq {a m : Int} (hm : 1 ≤ m) (hm2 : m ≤ 2305843009213693952) : impl_mod.f a m = some (a % m) := by
  unfold impl_mod.f
  rw [if_neg (by omega), modW hm hm2]
theorem impl_ofMark_ev {p L x : Int} (hp : primeB p = true) (hL : -6 ≤ L ∧ L ≤ 6) : Ev (fun k => impl_ofMark.f k p L x) ((ofM p L x).1, (ofM p L x).2.1, (ofM p L x).2.2, true) := by
  have hp2 := prime_lo hp
  unfold impl_ofMark.f
  refine Ev.bindv (impl_isLevel_eq L) ?_
  rw [decide_eq_true hL]
  simp only [if_true]
  rw [wid (n := L + 6) (by omega) (by omega)]
  refine Ev.bind (impl_power_ev p (L + 6) (by omega)) ?_
  rw [powW_prime hp _ (by omega)]
  have m1 := ipow_pos (p := p) (by omega) (L + 6).toNat
  have m2 := pow_13 hp (L + 6).toNat (by omega)
  refine Ev.bindv (impl_mod_eq m1 (by omega)) ?_
  have x0 := Int.emod_nonneg x (show p ^ (L + 6).toNat ≠ 0 by omega)
  have x1 := Int.emod_lt_of_pos x (show 0 < p ^ (L + 6).toNat by omega)
  refine Ev.bind (impl_valuation_ev hp2 (by omega) (by omega)) ?_
  have hv : valW p (x % p ^ (L + 6).toNat) ≤ 1000 ∧ 0 ≤ valW p (x % p ^ (L + 6).toNat) := by
    unfold valW
    split
    · omega
    · rename_i h0
      have := val_le_of_lt hp2 h0 62 (by omega)
      omega
  have hdn : mx (wrap64 (6 - valW p (x % p ^ (L + 6).toNat))) 0 = (ofM p L x).2.2 := by
    rw [wid (n := 6 - valW p (x % p ^ (L + 6).toNat)) (by omega) (by omega)]
    unfold ofM valW mx
    simp only
    by_cases h0 : x % p ^ (L + 6).toNat = 0
    · rw [if_pos h0, if_pos h0]; rfl
    · rw [if_neg h0, if_neg h0]
      by_cases h6 : ((val p (x % p ^ (L + 6).toNat) : Nat) : Int) < 6
      · rw [if_neg (by omega), if_pos h6]
      · rw [if_neg h6]; split <;> omega
  rw [hdn]
  obtain ⟨_, hD, _⟩ := ofM_back (p := p) (L := L) (X := x) hp2
  rw [wid (n := 6 - (ofM p L x).2.2) (by omega) (by omega)]
  refine Ev.bind (impl_power_ev p _ (by omega)) ?_
  rw [powW_prime hp _ (by omega)]
  have q1 := ipow_pos (p := p) (by omega) (6 - (ofM p L x).2.2).toNat
  simp only [if_neg (show ¬ p ^ (6 - (ofM p L x).2.2).toNat = 0 by omega)]
  rw [tdiv_cast x0]
  have hT : x % p ^ (L + 6).toNat / p ^ (6 - (ofM p L x).2.2).toNat = (ofM p L x).2.1 := rfl
  have d0 := Int.ediv_nonneg x0 (show 0 ≤ p ^ (6 - (ofM p L x).2.2).toNat by omega)
  have d1 := Int.ediv_le_self (p ^ (6 - (ofM p L x).2.2).toNat) x0
  rw [wid (n := x % p ^ (L + 6).toNat / p ^ (6 - (ofM p L x).2.2).toNat) (by omega) (by omega), hT]
  exact Ev.now _
theorem impl_ofMark_out {p L x : Int} (hL : ¬ (-6 ≤ L ∧ L ≤ 6)) : Ev (fun k => impl_ofMark.f k p L x) (0, 0, 0, false) := by
  unfold impl_ofMark.f
  refine Ev.bindv (impl_isLevel_eq L) ?_
  rw [decide_eq_false hL]
  simp only [Bool.false_eq_true, if_false]
  exact Ev.now _

theorem spec_l01MulMod_eq {a b m : Int} (hm : 1 ≤ m) (hm2 : m ≤ 100000000000) : spec_l01MulMod.f a b m = some (a * b % m) := by
  unfold spec_l01MulMod.f
  rw [if_neg (by omega), modW hm (by omega), modW hm (by omega)]
  have a0 := Int.emod_nonneg a (show m ≠ 0 by omega)
  have a1 := Int.emod_lt_of_pos a (show 0 < m by omega)
  have b0 := Int.emod_nonneg b (show m ≠ 0 by omega)
  have b1 := Int.emod_lt_of_pos b (show 0 < m by omega)
  have hab : a * b % m = (a % m) * (b % m) % m := Int.mul_emod a b m
  rw [hab]
  generalize a % m = x at *
  generalize b % m = y at *
  rw [tdiv_cast b0, tmod_cast b0]
  have q0 : 0 ≤ y / 1000000 := by omega
  have q1 : y / 1000000 ≤ 100000 := by omega
  have r0 : 0 ≤ y % 1000000 := by omega
  have r1 : y % 1000000 ≤ 1000000 := by omega
  have p0 : 0 ≤ x * (y / 1000000) := Int.mul_nonneg a0 q0
  have p1 : x * (y / 1000000) ≤ 100000000000 * 100000 := Int.mul_le_mul (by omega) q1 q0 (by omega)
  have s0 : 0 ≤ x * (y % 1000000) := Int.mul_nonneg a0 r0
  have s1 : x * (y % 1000000) ≤ 100000000000 * 1000000 := Int.mul_le_mul (by omega) r1 r0 (by omega)
  rw [wid (n := y / 1000000) (by omega) (by omega), wid (n := x * (y / 1000000)) (by omega) (by omega), wid (n := x * (y % 1000000)) (by omega) (by omega), tmod_cast p0, tmod_cast s0]
  have t0 := Int.emod_nonneg (x * (y / 1000000)) (show m ≠ 0 by omega)
  have t1 := Int.emod_lt_of_pos (x * (y / 1000000)) (show 0 < m by omega)
  rw [wid (n := x * (y / 1000000) % m * 1000000) (by omega) (by omega), tmod_cast (a := x * (y / 1000000) % m * 1000000) (by omega)]
  have u0 := Int.emod_nonneg (x * (y / 1000000) % m * 1000000) (show m ≠ 0 by omega)
  have u1 := Int.emod_lt_of_pos (x * (y / 1000000) % m * 1000000) (show 0 < m by omega)
  have v0 := Int.emod_nonneg (x * (y % 1000000)) (show m ≠ 0 by omega)
  have v1 := Int.emod_lt_of_pos (x * (y % 1000000)) (show 0 < m by omega)
  rw [wid (n := x * (y / 1000000) % m * 1000000 % m + x * (y % 1000000) % m) (by omega) (by omega), tmod_cast (a := x * (y / 1000000) % m * 1000000 % m + x * (y % 1000000) % m) (by omega)]
  congr 1
  have e1 : x * (y / 1000000) % m * 1000000 % m = x * (y / 1000000) * 1000000 % m := by rw [emod_mul_emod']
  rw [e1, ← Int.add_emod]
  congr 1
  rw [Int.mul_assoc, ← Int.mul_add]
  congr 1
  omega

theorem spec_l01InvMod_one {m : Int} (hm : 2 ≤ m) (hm2 : m ≤ 100000000000) : Ev (fun k => spec_l01InvMod.f k 1 m) 1 := by
  have h1 : Int.tmod (wrap64 (Int.tmod 1 m + m)) m = 1 := by rw [modW (by omega) (by omega)]; exact Int.emod_eq_of_lt (by omega) (by omega)
  refine Ev.congr (f := fun k => spec_l01InvMod.l0 k m 1 m 1 0) (fun k => by unfold spec_l01InvMod.f; rw [if_neg (by omega), h1]) ?_
  have q0 : Int.tdiv 1 m = 0 := by rw [tdiv_cast (by omega)]; exact Int.ediv_eq_zero_of_lt (by omega) (by omega)
  have q1 : Int.tdiv m 1 = m := Int.tdiv_one m
  have z0 : wrap64 0 = 0 := wid (by omega) (by omega)
  have z1 : wrap64 1 = 1 := wid (by omega) (by omega)
  refine Ev.step (f := fun k => spec_l01InvMod.l0 k m m 1 0 1) (fun k => ?_) ?_
  · simp only [spec_l01InvMod.l0]
    rw [if_neg (by omega), q0, z0, Int.zero_mul, z0, Int.sub_zero, z1, Int.mul_zero, z0, Int.sub_zero, z1]
  refine Ev.step (f := fun k => spec_l01InvMod.l0 k m 1 0 1 (-m)) (fun k => ?_) ?_
  · simp only [spec_l01InvMod.l0]
    rw [if_neg (by omega), q1, wid (n := m) (by omega) (by omega), Int.mul_one, wid (n := m) (by omega) (by omega), Int.sub_self, z0, Int.zero_sub, wid (n := -m) (by omega) (by omega)]
  refine Ev.step (f := fun _ => some 1) (fun k => ?_) (Ev.now _)
  simp only [spec_l01InvMod.l0]
  rw [if_pos trivial, if_neg (by omega), h1]

theorem In_eq (a b c : Int) : spec_l01In.f a b c = some (decide (b ≤ a ∧ a ≤ c)) := by
  unfold spec_l01In.f
  by_cases h : a ≥ b
  · rw [if_pos h]; congr 1; exact decide_eq_decide.2 ⟨fun h2 => ⟨h, h2⟩, fun h2 => h2.2⟩
  · rw [if_neg h]; congr 1; exact (decide_eq_false (fun h2 => h h2.1)).symm

theorem mx_eq (a b : Int) : mx a b = if a < b then b else a := rfl
theorem spec_l01Of_pow {p num L : Int} (D : Nat) (hp : primeB p = true) (hD : D ≤ 6) (h1 : -1152921504606846976 ≤ num) (h2 : num ≤ 1152921504606846976) (hL : -6 ≤ L ∧ L ≤ 6) :
    Ev (fun k => spec_l01Of.f k p num (p ^ D) L) ((ofM p L (num * p ^ (6 - D))).1, (ofM p L (num * p ^ (6 - D))).2.1, (ofM p L (num * p ^ (6 - D))).2.2, true) := by
  have hp2 := prime_lo hp
  have hpow : ∀ j : Nat, p ^ j ≠ 0 := fun j => Int.pow_ne_zero (by omega)
  have hpD := pow_13 hp D (by omega)
  have hpD1 := ipow_pos (p := p) (by omega) D
  unfold spec_l01Of.f
  refine Ev.bindv (In_eq _ _ _) ?_
  rw [decide_eq_true hL]
  simp only [if_true]
  by_cases h0 : num = 0
  · simp only [if_pos h0]
    have e : ofM p L (num * p ^ (6 - D)) = (L, 0, 0) := by
      rw [h0, Int.zero_mul]; exact ofM_of hp2 (by simp) (by omega) (.inl rfl)
    rw [e]; exact Ev.now _
  simp only [if_neg h0]
  have hvD : val p (p ^ D) = D := val_eq hp2 (u := 1) (by simp) (fun h => by have := Int.le_of_dvd (by omega) h; omega)
  have hv60 := val_le_of_lt hp2 h0 61 (by omega)
  refine Ev.bind (spec_l01Val_ev hp2 h0 (by omega) (by omega)) (Ev.bind (spec_l01Val_ev hp2 (hpow D) (by omega) (by omega)) ?_)
  rw [hvD]
  obtain ⟨u, hu, hn⟩ := val_spec hp2 h0
  generalize hv : val p num = v at *
  rw [wid (n := (v : Int) - (D : Int)) (by omega) (by omega), wid (n := (D : Int) - (v : Int)) (by omega) (by omega)]
  have hX : num * p ^ (6 - D) = p ^ (v + (6 - D)) * u := by
    rw [hu, Int.pow_add, Int.mul_assoc, Int.mul_assoc, Int.mul_comm u]
  by_cases hle : L ≤ (v : Int) - (D : Int)
  · simp only [if_pos hle]
    have e : ofM p L (num * p ^ (6 - D)) = (L, 0, 0) := by
      refine ofM_of hp2 ?_ (by omega) (.inl rfl)
      rw [hX, Int.zero_mul, show v + (6 - D) = (L + 6).toNat + (v + (6 - D) - (L + 6).toNat) from by omega, Int.pow_add, Int.mul_assoc]
      exact Int.mul_emod_right _ _
    rw [e]; exact Ev.now _
  simp only [if_neg hle]
  obtain ⟨dn, hdn⟩ : ∃ dn : Nat, (dn : Int) = mx ((D : Int) - (v : Int)) 0 := ⟨D - v, by rw [mx_eq]; split <;> omega⟩
  have hdn2 : (dn : Int) = if (D : Int) - v < 0 then 0 else (D : Int) - v := by rw [hdn, mx_eq]
  rw [← hdn]
  have hdn6 : dn ≤ D := by split at hdn2 <;> omega
  have hmp : 1 ≤ L + dn := by split at hdn2 <;> omega
  have hmp2 : (L + dn).toNat ≤ 12 := by omega
  simp only [if_neg (show ¬ (dn : Int) > 6 by omega)]
  rw [wid (n := L + (dn : Int)) (by omega) (by omega)]
  refine Ev.bind (spec_l01Power_ev p (L + dn) (by omega)) ?_
  rw [powW_prime hp _ (by omega)]
  have hu0 : u ≠ 0 := by intro e; rw [e] at hn; exact hn (Int.dvd_zero p)
  have hpv1 := ipow_pos (p := p) (by omega) v
  have hpv : p ^ v ≤ 1152921504606846976 := by
    have : num.natAbs = (p ^ v).natAbs * u.natAbs := by rw [← Int.natAbs_mul, ← hu]
    have h3 : (p ^ v).natAbs * 1 ≤ (p ^ v).natAbs * u.natAbs := Nat.mul_le_mul_left _ (by omega)
    omega
  have hub : -1152921504606846976 ≤ u ∧ u ≤ 1152921504606846976 := by
    have : num.natAbs = (p ^ v).natAbs * u.natAbs := by rw [← Int.natAbs_mul, ← hu]
    have h3 : 1 * u.natAbs ≤ (p ^ v).natAbs * u.natAbs := Nat.mul_le_mul_right _ (by omega)
    omega
  have pv : powW p v 1 = p ^ v := by rw [powW_fit p (by omega) v 1 (by omega) (by omega), Int.one_mul]
  refine Ev.bind (spec_l01Power_ev p v (by omega)) ?_
  rw [Int.toNat_natCast, pv]
  simp only [if_neg (hpow v)]
  refine Ev.bind (spec_l01Power_ev p D (by omega)) ?_
  rw [Int.toNat_natCast, powW_prime hp D (by omega)]
  simp only [if_neg (hpow D)]
  rw [Int.tdiv_self (hpow D), show wrap64 1 = 1 from wid (by omega) (by omega)]
  have hm1 : p ^ (L + (dn : Int)).toNat ≤ 13841287201 := pow_13 hp _ hmp2
  have hm0 : 2 ≤ p ^ (L + (dn : Int)).toNat := by
    have := ipow_mono (p := p) (by omega) (show 1 ≤ (L + (dn : Int)).toNat by omega)
    rw [Int.pow_one] at this; omega
  refine Ev.bind (spec_l01InvMod_one hm0 (by omega)) ?_
  have hq : Int.tdiv num (p ^ v) = u := by
    conv => lhs; lhs; rw [hu]
    exact Int.mul_tdiv_cancel_left _ (hpow v)
  rw [hq, wid (n := u) (by omega) (by omega)]
  refine Ev.bindv (spec_l01MulMod_eq (by omega) (by omega)) ?_
  rw [Int.mul_one]
  obtain ⟨e, he⟩ : ∃ e : Nat, (e : Int) = mx ((v : Int) - (D : Int)) 0 := ⟨v - D, by rw [mx_eq]; split <;> omega⟩
  have he2 : (e : Int) = if (v : Int) - D < 0 then 0 else (v : Int) - D := by rw [he, mx_eq]
  rw [← he]
  have hev : e ≤ v := by split at he2 <;> omega
  have hpe : p ^ e ≤ p ^ v := ipow_mono (by omega) hev
  refine Ev.bind (spec_l01Power_ev p e (by omega)) ?_
  rw [Int.toNat_natCast, powW_fit p (by omega) e 1 (by omega) (by omega), Int.one_mul]
  refine Ev.bindv (spec_l01MulMod_eq (by omega) (by omega)) ?_
  have hT : u % p ^ (L + (dn : Int)).toNat * p ^ e % p ^ (L + (dn : Int)).toNat = u * p ^ e % p ^ (L + (dn : Int)).toNat := by rw [emod_mul_emod']
  rw [hT]
  have hexp : v + (6 - D) = (6 - (dn : Int)).toNat + e := by split at hdn2 <;> split at he2 <;> omega
  have hexp2 : (L + 6).toNat = (6 - (dn : Int)).toNat + (L + (dn : Int)).toNat := by omega
  have key : ofM p L (num * p ^ (6 - D)) = (L, u * p ^ e % p ^ (L + (dn : Int)).toNat, (dn : Int)) := by
    refine ofM_of hp2 ?_ (by omega) ?_
    · rw [hX, hexp, hexp2, Int.pow_add, Int.pow_add, Int.mul_assoc, Int.mul_emod_mul_of_pos _ _ (Int.lt_of_lt_of_le (by omega) (ipow_pos (p := p) (by omega) _)), Int.mul_comm (p ^ e) u, Int.mul_comm]
    · by_cases hz : dn = 0
      · left; omega
      · right
        have e0 : e = 0 := by split at hdn2 <;> split at he2 <;> omega
        rw [e0, Int.pow_zero, Int.mul_one]
        intro hd
        apply hn
        have hpm : p ∣ p ^ (L + (dn : Int)).toNat := by
          obtain ⟨j, hj⟩ : ∃ j, (L + (dn : Int)).toNat = j + 1 := ⟨(L + (dn : Int)).toNat - 1, by omega⟩
          rw [hj, Int.pow_succ']; exact Int.dvd_mul_right _ _
        have := Int.dvd_add hd (Int.dvd_trans hpm (Int.dvd_mul_right (p ^ (L + (dn : Int)).toNat) (u / p ^ (L + (dn : Int)).toNat)))
        rwa [Int.emod_add_mul_ediv] at this
  rw [key]
  exact Ev.now _
theorem spec_l01Of_out {p num den L : Int} (hL : ¬ (-6 ≤ L ∧ L ≤ 6)) : Ev (fun k => spec_l01Of.f k p num den L) (0, 0, 0, false) := by
  unfold spec_l01Of.f
  refine Ev.bindv (In_eq _ _ _) ?_
  rw [decide_eq_false hL]
  simp only [Bool.false_eq_true, if_false]
  exact Ev.now _

def jnW (p L L' X Y : Int) : Int := mn (mn L L') (valW p (X - Y) - 6)
theorem valW_bd {p n : Int} (hp : 2 ≤ p) (h1 : -4611686018427387904 ≤ n) (h2 : n ≤ 4611686018427387904) : 0 ≤ valW p n ∧ valW p n ≤ 1000 := by
  unfold valW
  by_cases h : n = 0
  · rw [if_pos h]; omega
  · rw [if_neg h]
    have := val_le_of_lt hp h 63 (by omega)
    omega
theorem mn_min (a b : Int) : mn a b = min a b := by unfold mn; split <;> omega
theorem mx_max2 (a b : Int) : mx a b = max a b := by unfold mx; split <;> omega
theorem mark_top {p L T D : Int} (h : ballB p L T D = true) : 0 ≤ markOf p T D ∧ markOf p T D ≤ 13841287201 := by
  obtain ⟨hp, hL, _⟩ := ball_parts h
  obtain ⟨m0, m1⟩ := mark_lt h
  have := pow_13 hp (L + 6).toNat (by omega)
  omega
section
variable {p L T D L' T' D' : Int} (h : ballB p L T D = true) (h' : ballB p L' T' D' = true)
include h h'
theorem impl_joinLevel_ev : Ev (fun k => impl_joinLevel.f k p L T D L' T' D') (jnW p L L' (markOf p T D) (markOf p T' D')) := by
  have hp := (ball_parts h).1
  have m := mark_top h
  have m' := mark_top h'
  have hv := valW_bd (p := p) (n := markOf p T D - markOf p T' D') (prime_lo hp) (by omega) (by omega)
  unfold impl_joinLevel.f jnW
  refine Ev.bind (impl_mark_ev h) (Ev.bind (impl_mark_ev h') ?_)
  rw [wid (n := markOf p T D - markOf p T' D') (by omega) (by omega)]
  refine Ev.bind (impl_valuation_ev (prime_lo hp) (by omega) (by omega)) ?_
  rw [wid (n := valW p (markOf p T D - markOf p T' D') - 6) (by omega) (by omega)]
  exact Ev.now _
theorem spec_l02Join_ev : Ev (fun k => spec_l02Join.f k p L T D L' T' D') (jnW p L L' (markOf p T D) (markOf p T' D')) := by
  obtain ⟨hp, hL, hD, _, _⟩ := ball_parts h
  obtain ⟨_, hL', hD', _, _⟩ := ball_parts h'
  have hp2 := prime_lo hp
  have m := mark_top h
  have m' := mark_top h'
  have t0 := ball_num h
  have t0' := ball_num h'
  have hv := valW_bd (p := p) (n := markOf p T D - markOf p T' D') hp2 (by omega) (by omega)
  unfold spec_l02Join.f spec_l02Valuation.f
  rw [mx_max2]
  generalize hdn : max D D' = dn
  have hd1 : D ≤ dn ∧ D' ≤ dn ∧ 0 ≤ dn ∧ dn ≤ 6 := by omega
  rw [wid (n := dn - D) (by omega) (by omega), wid (n := dn - D') (by omega) (by omega)]
  have e : markOf p T D = T * p ^ (dn - D).toNat * p ^ (6 - dn).toNat := by
    unfold markOf; rw [Int.mul_assoc, ← Int.pow_add]; congr 2; omega
  have e' : markOf p T' D' = T' * p ^ (dn - D').toNat * p ^ (6 - dn).toNat := by
    unfold markOf; rw [Int.mul_assoc, ← Int.pow_add]; congr 2; omega
  have q1 := ipow_pos (show 1 ≤ p by omega) (6 - dn).toNat
  have q2 := ipow_pos (show 1 ≤ p by omega) (dn - D).toNat
  have q3 := ipow_pos (show 1 ≤ p by omega) (dn - D').toNat
  have w0 := Int.mul_nonneg t0.1 (show 0 ≤ p ^ (dn - D).toNat by omega)
  have w0' := Int.mul_nonneg t0'.1 (show 0 ≤ p ^ (dn - D').toNat by omega)
  have w1 : T * p ^ (dn - D).toNat ≤ markOf p T D := by
    rw [e]
    have := Int.mul_nonneg w0 (show 0 ≤ p ^ (6 - dn).toNat - 1 by omega)
    rw [Int.mul_sub] at this; omega
  have w1' : T' * p ^ (dn - D').toNat ≤ markOf p T' D' := by
    rw [e']
    have := Int.mul_nonneg w0' (show 0 ≤ p ^ (6 - dn).toNat - 1 by omega)
    rw [Int.mul_sub] at this; omega
  have ed : markOf p T D - markOf p T' D' = p ^ (6 - dn).toNat * (T * p ^ (dn - D).toNat - T' * p ^ (dn - D').toNat) := by
    rw [e, e', Int.mul_sub, Int.mul_comm (p ^ (6 - dn).toNat), Int.mul_comm (p ^ (6 - dn).toNat)]
  refine Ev.bind (a := if T * p ^ (dn - D).toNat - T' * p ^ (dn - D').toNat = 0 then (0, false) else ((val p (T * p ^ (dn - D).toNat - T' * p ^ (dn - D').toNat) : Int) - dn, true)) ?_ ?_
  · refine Ev.bind (spec_l01Power_ev p _ (by omega)) (Ev.bind (spec_l01Power_ev p _ (by omega)) ?_)
    rw [powW_prime hp _ (by omega), powW_prime hp _ (by omega), wid (n := T * p ^ (dn - D).toNat) (by omega) (by omega), wid (n := T' * p ^ (dn - D').toNat) (by omega) (by omega), wid (n := T * p ^ (dn - D).toNat - T' * p ^ (dn - D').toNat) (by omega) (by omega)]
    by_cases h0 : T * p ^ (dn - D).toNat - T' * p ^ (dn - D').toNat = 0
    · simp only [if_pos h0]; exact Ev.now _
    · simp only [if_neg h0]
      refine Ev.bind (spec_l01Val_ev hp2 h0 (by omega) (by omega)) ?_
      have := val_le_of_lt hp2 h0 63 (by omega)
      rw [wid (by omega) (by omega)]
      exact Ev.now _
  · unfold jnW
    by_cases h0 : T * p ^ (dn - D).toNat - T' * p ^ (dn - D').toNat = 0
    · simp only [if_pos h0, Bool.false_eq_true, if_false]
      have hz : markOf p T D - markOf p T' D' = 0 := by rw [ed, h0, Int.mul_zero]
      rw [show mn (mn L L') (valW p (markOf p T D - markOf p T' D') - 6) = mn L L' from by
        unfold valW; rw [if_pos hz, mn_min, mn_min]; omega]
      exact Ev.now _
    · simp only [if_neg h0, if_true]
      have hz : markOf p T D - markOf p T' D' ≠ 0 := by
        rw [ed]; exact Int.mul_ne_zero (by omega) h0
      have hv2 : val p (markOf p T D - markOf p T' D') = (6 - dn).toNat + val p (T * p ^ (dn - D).toNat - T' * p ^ (dn - D').toNat) := by
        rw [ed]; exact val_pow_mul _ hp2 h0
      rw [show valW p (markOf p T D - markOf p T' D') - 6 = (val p (T * p ^ (dn - D).toNat - T' * p ^ (dn - D').toNat) : Int) - dn from by
        unfold valW; rw [if_neg hz, hv2]; omega]
      exact Ev.now _
theorem jnW_bd : -6 ≤ jnW p L L' (markOf p T D) (markOf p T' D') ∧ jnW p L L' (markOf p T D) (markOf p T' D') ≤ L ∧ jnW p L L' (markOf p T D) (markOf p T' D') ≤ L' := by
  obtain ⟨hp, hL, _⟩ := ball_parts h
  obtain ⟨_, hL', _⟩ := ball_parts h'
  have m := mark_top h
  have m' := mark_top h'
  have hv := valW_bd (p := p) (n := markOf p T D - markOf p T' D') (prime_lo hp) (by omega) (by omega)
  unfold jnW
  rw [mn_min, mn_min]
  omega
theorem jnW_same : ofM p (jnW p L L' (markOf p T D) (markOf p T' D')) (markOf p T D) = ofM p (jnW p L L' (markOf p T D) (markOf p T' D')) (markOf p T' D') := by
  have hb := jnW_bd h h'
  obtain ⟨hp, hL, _⟩ := ball_parts h
  have hp2 := prime_lo hp
  have m := mark_top h
  have m' := mark_top h'
  have hj : jnW p L L' (markOf p T D) (markOf p T' D') + 6 ≤ valW p (markOf p T D - markOf p T' D') := by
    unfold jnW; rw [mn_min, mn_min]; omega
  generalize jnW p L L' (markOf p T D) (markOf p T' D') = J at hb hj ⊢
  rw [ofM_inj hp2]
  by_cases hz : markOf p T D - markOf p T' D' = 0
  · rw [show markOf p T D = markOf p T' D' by omega]
  · unfold valW at hj
    rw [if_neg hz] at hj
    exact Int.emod_eq_emod_iff_emod_sub_eq_zero.2 (Int.emod_eq_zero_of_dvd ((val_dvd hp2 hz _).2 (by omega)))
end
theorem impl_above_ev {p L T D K : Int} (h : ballB p L T D = true) (hK : -6 ≤ K ∧ K ≤ 6) : Ev (fun k => impl_above.f k p L T D K) ((ofM p K (markOf p T D)).1, (ofM p K (markOf p T D)).2.1, (ofM p K (markOf p T D)).2.2) := by
  unfold impl_above.f
  exact Ev.bind (impl_mark_ev h) (Ev.bind (impl_ofMark_ev (ball_parts h).1 hK) (Ev.now _))
theorem rd_nat (l : List Int) (j : Nat) (h : j < l.length) : rd l (j : Int) = l[j] := by
  unfold rd; rw [Int.toNat_natCast, List.getD_eq_getElem?_getD, List.getElem?_eq_getElem h]; rfl
theorem all_ev {β : Type} (g : Nat → Int → Option β) (n : Nat) (p : Nat → Bool) (yes no : β)
    (hstep : ∀ (i : Nat), i < n → p i = true → Ev (fun k => g k ((i : Int) + 1)) yes → Ev (fun k => g k i) yes)
    (hstepno : ∀ (i : Nat), i < n → p i = true → Ev (fun k => g k ((i : Int) + 1)) no → Ev (fun k => g k i) no)
    (hno : ∀ (i : Nat), i < n → p i = false → Ev (fun k => g k i) no)
    (hend : Ev (fun k => g k n) yes) : Ev (fun k => g k 0) (if (List.range n).all p then yes else no) := by
  have key : ∀ (d i : Nat), i + d = n → Ev (fun k => g k i) (if (List.range' i d).all p then yes else no) := by
    intro d
    induction d with
    | zero => intro i hi; have : i = n := by omega
              subst this; simpa using hend
    | succ d ih =>
      intro i hi
      have h := ih (i + 1) (by omega)
      rw [List.range'_succ, List.all_cons]
      cases e : p i with
      | false => simpa using hno i (by omega) e
      | true =>
        rw [Bool.true_and]
        have e1 : (((i + 1 : Nat) : Int)) = (i : Int) + 1 := by omega
        rw [e1] at h
        cases e2 : (List.range' (i + 1) d).all p with
        | true => rw [e2] at h; exact hstep i (by omega) e h
        | false => rw [e2] at h; exact hstepno i (by omega) e h
  have := key n 0 (by omega)
  rw [← List.range_eq_range'] at this
  exact this
theorem all_range_getD {α : Type} (l : List α) (d : α) (q : α → Bool) : (List.range l.length).all (fun i => q (l.getD i d)) = l.all q := by
  rw [Bool.eq_iff_iff]
  simp only [List.all_eq_true, List.mem_range]
  constructor
  · intro h x hx
    obtain ⟨i, hi, rfl⟩ := List.mem_iff_getElem.1 hx
    have := h i hi
    rwa [List.getD_eq_getElem?_getD, List.getElem?_eq_getElem hi] at this
  · intro h i hi
    rw [List.getD_eq_getElem?_getD, List.getElem?_eq_getElem hi]
    exact h _ (List.getElem_mem hi)
theorem all_ev' {β : Type} (g : Nat → Int → Option β) (n : Nat) (p : Nat → Bool) (yes no : β)
    (hstep : ∀ (i : Nat) (r : β), i < n → p i = true → Ev (fun k => g k ((i : Int) + 1)) r → Ev (fun k => g k i) r)
    (hno : ∀ (i : Nat), i < n → p i = false → Ev (fun k => g k i) no)
    (hend : Ev (fun k => g k n) yes) : Ev (fun k => g k 0) (if (List.range n).all p then yes else no) :=
  all_ev g n p yes no (fun i hi hp h => hstep i yes hi hp h) (fun i hi hp h => hstep i no hi hp h) hno hend
def parM (p L T D : Int) : Int × Int × Int := ofM p (L - 1) (markOf p T D)
def chM (p L T D c : Int) : Int × Int × Int := ofM p (L + 1) (markOf p T D + c * p ^ (L + 6).toNat)
def parW (p L T D : Int) : Int × Int × Int × Bool := if L = -6 then (0, 0, 0, false) else ((parM p L T D).1, (parM p L T D).2.1, (parM p L T D).2.2, true)
def chW (p L T D c : Int) : Int × Int × Int × Bool := if L = 6 then (0, 0, 0, false) else ((chM p L T D c).1, (chM p L T D c).2.1, (chM p L T D c).2.2, true)
theorem mul_bdc {x y M N : Int} (hx : -M ≤ x ∧ x ≤ M) (hy : 1 ≤ y) (hy2 : y ≤ N) : -(M * N) ≤ x * y ∧ x * y ≤ M * N := by
  have h1 := Int.mul_nonneg (show 0 ≤ M - x by omega) (show 0 ≤ y by omega)
  have h2 := Int.mul_nonneg (show 0 ≤ M + x by omega) (show 0 ≤ y by omega)
  have h3 := Int.mul_nonneg (show 0 ≤ M by omega) (show 0 ≤ N - y by omega)
  simp only [Int.sub_mul, Int.mul_sub, Int.add_mul] at h1 h2 h3
  constructor <;> omega

theorem impl_parent_ev {p L T D : Int} (h : ballB p L T D = true) : Ev (fun k => impl_parent.f k p L T D) (parW p L T D) := by
  obtain ⟨hp, hL, _⟩ := ball_parts h
  unfold impl_parent.f parW
  refine Ev.bind (impl_mark_ev h) ?_
  rw [wid (n := L - 1) (by omega) (by omega)]
  by_cases h6 : L = -6
  · rw [if_pos h6]
    exact Ev.bind (impl_ofMark_out (by omega)) (Ev.now _)
  · rw [if_neg h6]
    exact Ev.bind (impl_ofMark_ev hp (by omega)) (Ev.now _)
theorem impl_child_ev {p L T D c : Int} (h : ballB p L T D = true) (hc : -1000 ≤ c ∧ c ≤ 1000) : Ev (fun k => impl_child.f k p L T D c) (chW p L T D c) := by
  obtain ⟨hp, hL, _⟩ := ball_parts h
  have hp2 := prime_lo hp
  obtain ⟨m0, m1⟩ := mark_lt h
  have q1 := ipow_pos (p := p) (by omega) (L + 6).toNat
  have q2 := pow_13 hp (L + 6).toNat (by omega)
  have a1 := mul_bdc hc q1 q2
  unfold impl_child.f chW
  refine Ev.bind (impl_mark_ev h) ?_
  rw [wid (n := L + 6) (by omega) (by omega)]
  refine Ev.bind (impl_power_ev p _ (by omega)) ?_
  rw [powW_prime hp _ (by omega), wid (n := L + 1) (by omega) (by omega), wid (n := c * p ^ (L + 6).toNat) (by omega) (by omega), wid (n := markOf p T D + c * p ^ (L + 6).toNat) (by omega) (by omega)]
  by_cases h6 : L = 6
  · rw [if_pos h6]
    exact Ev.bind (impl_ofMark_out (by omega)) (Ev.now _)
  · rw [if_neg h6]
    exact Ev.bind (impl_ofMark_ev hp (by omega)) (Ev.now _)
theorem impl_neighbour_ev {p L T D : Int} (c : Int) (h : ballB p L T D = true) (hc : 0 ≤ c ∧ c ≤ 1000) : Ev (fun k => impl_neighbour.f k p L T D c) (if c = 0 then parW p L T D else chW p L T D (c - 1)) := by
  unfold impl_neighbour.f
  by_cases h0 : c = 0
  · simp only [if_pos h0]; exact Ev.bind (impl_parent_ev h) (Ev.now _)
  · simp only [if_neg h0]
    rw [wid (n := c - 1) (by omega) (by omega)]
    exact Ev.bind (impl_child_ev h (by omega)) (Ev.now _)

theorem spec_l01Parent_ev {p L T D : Int} (h : ballB p L T D = true) : Ev (fun k => spec_l01Parent.f k p L T D) (parW p L T D) := by
  obtain ⟨hp, hL, hD, _⟩ := ball_parts h
  have hT := ball_num h
  unfold spec_l01Parent.f parW
  refine Ev.bind (spec_l01Power_ev p D (by omega)) ?_
  rw [powW_prime hp _ (by omega), wid (n := L - 1) (by omega) (by omega)]
  by_cases h6 : L = -6
  · rw [if_pos h6]
    exact Ev.bind (spec_l01Of_out (by omega)) (Ev.now _)
  · rw [if_neg h6]
    have := spec_l01Of_pow (num := T) (L := L - 1) D.toNat hp (by omega) (by omega) (by omega) (by omega)
    rw [show 6 - D.toNat = (6 - D).toNat from by omega] at this
    exact Ev.bind this (Ev.now _)
theorem spec_l01Child_ev {p L T D c : Int} (h : ballB p L T D = true) (hc : -1000 ≤ c ∧ c ≤ 1000) : Ev (fun k => spec_l01Child.f k p L T D c) (chW p L T D c) := by
  obtain ⟨hp, hL, hD, _⟩ := ball_parts h
  have hp2 := prime_lo hp
  have hT := ball_num h
  have pD := pow_13 hp D.toNat (by omega)
  have pD1 := ipow_pos (p := p) (by omega) D.toNat
  unfold spec_l01Child.f chW
  by_cases h6 : L = 6
  · simp only [if_pos h6]; exact Ev.now _
  simp only [if_neg h6]
  refine Ev.bind (spec_l01Power_ev p D (by omega)) ?_
  rw [powW_prime hp _ (by omega)]
  by_cases h0 : L ≥ 0
  · simp only [if_pos h0]
    refine Ev.bind (spec_l01Power_ev p L (by omega)) ?_
    rw [powW_prime hp _ (by omega)]
    have qL := pow_13 hp (L.toNat + D.toNat) (by omega)
    have qL1 := ipow_pos (p := p) (by omega) (L.toNat + D.toNat)
    have a1 := mul_bdc hc pD1 pD
    have a2 := mul_bdc hc qL1 qL
    have e1 : c * p ^ D.toNat * p ^ L.toNat = c * p ^ (L.toNat + D.toNat) := by rw [Int.mul_assoc, ← Int.pow_add, Nat.add_comm]
    rw [wid (n := c * p ^ D.toNat) (by omega) (by omega), e1, wid (n := c * p ^ (L.toNat + D.toNat)) (by omega) (by omega), wid (n := T + c * p ^ (L.toNat + D.toNat)) (by omega) (by omega), wid (n := L + 1) (by omega) (by omega)]
    have := spec_l01Of_pow (num := T + c * p ^ (L.toNat + D.toNat)) (L := L + 1) D.toNat hp (by omega) (by omega) (by omega) (by omega)
    rw [show (T + c * p ^ (L.toNat + D.toNat)) * p ^ (6 - D.toNat) = markOf p T D + c * p ^ (L + 6).toNat from by
      rw [Int.add_mul, Int.mul_assoc, ← Int.pow_add, show L.toNat + D.toNat + (6 - D.toNat) = (L + 6).toNat from by omega, show 6 - D.toNat = (6 - D).toNat from by omega]; rfl] at this
    exact Ev.bind this (Ev.now _)
  · simp only [if_neg h0]
    rw [wid (n := -L) (by omega) (by omega)]
    have pL := pow_13 hp (-L).toNat (by omega)
    have pL1 := ipow_pos (p := p) (by omega) (-L).toNat
    refine Ev.bind (spec_l01Power_ev p (-L) (by omega)) ?_
    rw [powW_prime hp _ (by omega)]
    simp only [if_neg (show ¬ p ^ D.toNat = 0 by omega), if_neg (show ¬ p ^ (-L).toNat = 0 by omega)]
    obtain ⟨E, hE, hE2, hE3, hE4⟩ : ∃ E : Nat, mx (p ^ D.toNat) (p ^ (-L).toNat) = p ^ E ∧ D.toNat ≤ E ∧ (-L).toNat ≤ E ∧ E ≤ 6 := by
      by_cases hc2 : D.toNat ≤ (-L).toNat
      · refine ⟨(-L).toNat, ?_, hc2, Nat.le_refl _, by omega⟩
        have := ipow_mono (p := p) (by omega) hc2
        rw [mx_eq]; split <;> omega
      · refine ⟨D.toNat, ?_, Nat.le_refl _, by omega, by omega⟩
        have := ipow_mono (p := p) (by omega) (show (-L).toNat ≤ D.toNat by omega)
        rw [mx_eq]; split <;> omega
    rw [hE]
    have hpow : ∀ j : Nat, p ^ j ≠ 0 := fun j => Int.pow_ne_zero (by omega)
    have d1 : Int.tdiv (p ^ E) (p ^ D.toNat) = p ^ (E - D.toNat) := by
      rw [show p ^ E = p ^ D.toNat * p ^ (E - D.toNat) from by rw [← Int.pow_add]; congr 1; omega]
      exact Int.mul_tdiv_cancel_left _ (hpow _)
    have d2 : Int.tdiv (p ^ E) (p ^ (-L).toNat) = p ^ (E - (-L).toNat) := by
      rw [show p ^ E = p ^ (-L).toNat * p ^ (E - (-L).toNat) from by rw [← Int.pow_add]; congr 1; omega]
      exact Int.mul_tdiv_cancel_left _ (hpow _)
    have b1 := pow_13 hp (E - D.toNat) (by omega)
    have b2 := ipow_pos (p := p) (by omega) (E - D.toNat)
    have b5 : p ^ (E - D.toNat) ≤ 117649 := by
      have h1 : p ^ (E - D.toNat) ≤ p ^ 6 := ipow_mono (by omega) (by omega)
      have h2 : p ^ 6 ≤ 117649 := by rcases prime_cases hp with rfl | rfl | rfl | rfl <;> decide
      omega
    have b3 := pow_13 hp (E - (-L).toNat) (by omega)
    have b4 := ipow_pos (p := p) (by omega) (E - (-L).toNat)
    rw [d1, d2, wid (n := p ^ (E - D.toNat)) (by omega) (by omega), wid (n := p ^ (E - (-L).toNat)) (by omega) (by omega)]
    have a1 : T * p ^ (E - D.toNat) ≤ 13841287201 * 117649 := Int.mul_le_mul hT.2 b5 (by omega) (by omega)
    have a0 : 0 ≤ T * p ^ (E - D.toNat) := Int.mul_nonneg hT.1 (by omega)
    have a2 := mul_bdc hc b4 b3
    rw [wid (n := T * p ^ (E - D.toNat)) (by omega) (by omega), wid (n := c * p ^ (E - (-L).toNat)) (by omega) (by omega), wid (n := T * p ^ (E - D.toNat) + c * p ^ (E - (-L).toNat)) (by omega) (by omega), wid (n := L + 1) (by omega) (by omega)]
    have := spec_l01Of_pow (num := T * p ^ (E - D.toNat) + c * p ^ (E - (-L).toNat)) (L := L + 1) E hp hE4 (by omega) (by omega) (by omega)
    rw [show (T * p ^ (E - D.toNat) + c * p ^ (E - (-L).toNat)) * p ^ (6 - E) = markOf p T D + c * p ^ (L + 6).toNat from by
      rw [Int.add_mul, Int.mul_assoc, Int.mul_assoc, ← Int.pow_add, ← Int.pow_add, show E - (-L).toNat + (6 - E) = (L + 6).toNat from by omega, show E - D.toNat + (6 - E) = (6 - D).toNat from by omega]; rfl] at this
    exact Ev.bind this (Ev.now _)

theorem Ev.up {α : Type} {g : Nat → Option α} {r : α} (h : Ev (fun k => g (k + 1)) r) : Ev g r := Ev.step (f := fun k => g (k + 1)) (fun _ => rfl) h

def upB (p X n : Int) : S25 := ⟨(ofM p n X).1, (ofM p n X).2.1, (ofM p n X).2.2⟩
theorem upB_ok {p X n : Int} (hp : primeB p = true) (hn : -6 ≤ n ∧ n ≤ 6) : ballB p n (ofM p n X).2.1 (ofM p n X).2.2 = true := ofM_ball hp hn
theorem upB_mark {p X n : Int} (hp : primeB p = true) : markOf p (ofM p n X).2.1 (ofM p n X).2.2 = X % p ^ (n + 6).toNat := (ofM_back (prime_lo hp)).1
theorem chM_dig {p X n : Int} (hp : primeB p = true) (hn : -6 ≤ n ∧ n < 6) : ∃ k : Nat, (k : Int) < p ∧ chM p n (ofM p n X).2.1 (ofM p n X).2.2 k = ofM p (n + 1) X := by
  have hp2 := prime_lo hp
  have k0 := Int.emod_nonneg (X / p ^ (n + 6).toNat) (show p ≠ 0 by omega)
  have k1 := Int.emod_lt_of_pos (X / p ^ (n + 6).toNat) (show 0 < p by omega)
  refine ⟨(X / p ^ (n + 6).toNat % p).toNat, by omega, ?_⟩
  unfold chM
  rw [upB_mark hp, Int.toNat_of_nonneg k0, ofM_inj hp2, show (n + 1 + 6).toNat = (n + 6).toNat + 1 by omega, Int.pow_succ]
  have e1 := Int.emod_add_mul_ediv X (p ^ (n + 6).toNat)
  have e2 := Int.emod_add_mul_ediv (X / p ^ (n + 6).toNat) p
  have e3 : X = X % p ^ (n + 6).toNat + X / p ^ (n + 6).toNat % p * p ^ (n + 6).toNat + p ^ (n + 6).toNat * p * (X / p ^ (n + 6).toNat / p) := by
    have e4 : p ^ (n + 6).toNat * (X / p ^ (n + 6).toNat) = X / p ^ (n + 6).toNat % p * p ^ (n + 6).toNat + p ^ (n + 6).toNat * p * (X / p ^ (n + 6).toNat / p) := by
      conv => lhs; rhs; rw [← e2]
      rw [Int.mul_add, Int.mul_comm (p ^ (n + 6).toNat) (X / p ^ (n + 6).toNat % p), Int.mul_assoc]
    omega
  conv => rhs; lhs; rw [e3]
  rw [Int.add_mul_emod_self_left]
theorem parM_up {p X n : Int} (hp : primeB p = true) (hn : -6 ≤ n ∧ n < 6) : parM p (n + 1) (ofM p (n + 1) X).2.1 (ofM p (n + 1) X).2.2 = ofM p n X := by
  have hp2 := prime_lo hp
  unfold parM
  rw [upB_mark hp, show n + 1 - 1 = n by omega, ofM_inj hp2]
  exact Int.emod_emod_of_dvd _ ⟨p ^ 1, by rw [← Int.pow_add]; congr 1; omega⟩
section
variable {p L T D L' T' D' : Int} (h : ballB p L T D = true) (h' : ballB p L' T' D' = true) (J : Int) (na nb : Nat) (hJ : -6 ≤ J) (hna : L = J + na) (hnb : L' = J + nb) (hsame : ofM p J (markOf p T D) = ofM p J (markOf p T' D'))
def wayAt (p X X' J : Int) (na i : Nat) : S25 := if i < na then upB p X (J + na - i) else upB p X' (J + (i - na : Nat))
include h h' hJ hna hnb hsame in
theorem geo_l1 (d : Nat) : ∀ (j : Nat), j + d = nb → Ev (fun k => impl_geodesic.l1 k p ((List.range (na + 1 + j)).map (wayAt p (markOf p T D) (markOf p T' D') J na)) (J + 1 + j) L' T' D') ((List.range (na + 1 + nb)).map (wayAt p (markOf p T D) (markOf p T' D') J na)) := by
  have hl := (ball_parts h).2.1
  have hl' := (ball_parts h').2.1
  induction d with
  | zero =>
    intro j hj
    obtain rfl : j = nb := by omega
    refine Ev.up ?_
    simp only [impl_geodesic.l1, if_neg (show ¬ J + 1 + (j : Int) ≤ L' by omega)]
    exact Ev.now _
  | succ d ih =>
    intro j hj
    refine Ev.up ?_
    simp only [impl_geodesic.l1, if_pos (show J + 1 + (j : Int) ≤ L' by omega)]
    refine Ev.bind (impl_above_ev h' (by omega)) ?_
    rw [wid (n := J + 1 + (j : Int) + 1) (by omega) (by omega)]
    simp only [List.length_map, List.length_range, if_pos (show na + 1 + j < 5864062014805 by omega)]
    have e : (List.range (na + 1 + j)).map (wayAt p (markOf p T D) (markOf p T' D') J na) ++ [upB p (markOf p T' D') (J + 1 + j)] = (List.range (na + 1 + (j + 1))).map (wayAt p (markOf p T D) (markOf p T' D') J na) := by
      rw [show na + 1 + (j + 1) = na + 1 + j + 1 by omega, List.range_succ, List.map_append, List.map_singleton]
      congr 2
      unfold wayAt
      rw [if_neg (by omega), show J + ((na + 1 + j - na : Nat) : Int) = J + 1 + j by omega]
    have := ih (j + 1) (by omega)
    rw [← e, show J + 1 + ((j + 1 : Nat) : Int) = J + 1 + (j : Int) + 1 by omega] at this
    exact this
include h h' hJ hna hnb hsame in
theorem geo_l0 (d : Nat) : ∀ (i : Nat), i + d = na + 1 → Ev (fun k => impl_geodesic.l0 k p J ((List.range i).map (wayAt p (markOf p T D) (markOf p T' D') J na)) (L - i) L T D L' T' D') ((List.range (na + 1 + nb)).map (wayAt p (markOf p T D) (markOf p T' D') J na)) := by
  have hl := (ball_parts h).2.1
  have hl' := (ball_parts h').2.1
  induction d with
  | zero =>
    intro i hi
    obtain rfl : i = na + 1 := by omega
    refine Ev.up ?_
    simp only [impl_geodesic.l0, if_neg (show ¬ L - ((na + 1 : Nat) : Int) ≥ J by omega)]
    rw [wid (n := J + 1) (by omega) (by omega)]
    have := geo_l1 h h' J na nb hJ hna hnb hsame nb 0 (by omega)
    simpa using this
  | succ d ih =>
    intro i hi
    refine Ev.up ?_
    simp only [impl_geodesic.l0, if_pos (show L - (i : Int) ≥ J by omega)]
    refine Ev.bind (impl_above_ev h (by omega)) ?_
    rw [wid (n := L - (i : Int) - 1) (by omega) (by omega)]
    simp only [List.length_map, List.length_range, if_pos (show i < 5864062014805 by omega)]
    have e : (List.range i).map (wayAt p (markOf p T D) (markOf p T' D') J na) ++ [upB p (markOf p T D) (L - i)] = (List.range (i + 1)).map (wayAt p (markOf p T D) (markOf p T' D') J na) := by
      rw [List.range_succ, List.map_append, List.map_singleton]
      congr 2
      unfold wayAt
      by_cases hlt : i < na
      · rw [if_pos hlt, hna]
      · rw [if_neg hlt, show L - (i : Int) = J by omega, show J + ((i - na : Nat) : Int) = J by omega]
        unfold upB
        rw [hsame]
    have := ih (i + 1) (by omega)
    rw [← e, show L - ((i + 1 : Nat) : Int) = L - (i : Int) - 1 by omega] at this
    exact this
theorem wayAt_rd (p X X' J : Int) (na N i : Nat) (hi : i < N) : rd_T25 ((List.range N).map (wayAt p X X' J na)) (i : Int) = wayAt p X X' J na i := by
  show ((List.range N).map (wayAt p X X' J na)).getD i z25 = _
  rw [List.getD_eq_getElem?_getD, List.getElem?_map, List.getElem?_range hi]
  rfl
include h h' hJ hna hnb hsame in
include h h' hJ hna hnb hsame in
end
def okB (p : Int) (b : S25) : Prop := ballB p b.f0 b.f1 b.f2 = true
theorem spec_l01Prime_eq (p : Int) : spec_l01Prime.f p = some (primeB p) := by
  unfold spec_l01Prime.f primeB
  by_cases h2 : p = 2
  · simp [h2]
  · by_cases h3 : p = 3
    · simp [h3]
    · by_cases h5 : p = 5
      · simp [h5]
      · rw [if_neg h2, if_neg h3, if_neg h5, beq_eq_false_iff_ne.2 h2, beq_eq_false_iff_ne.2 h3, beq_eq_false_iff_ne.2 h5]; rfl

theorem spec_l01Is_ev (p L T D : Int) : Ev (fun k => spec_l01Is.f k p L T D) (ballB p L T D) := by
  have hno : Ev (fun k => spec_l01Is.j0 k p true L T D) false := Ev.step (f := fun _ => some false) (fun k => by simp only [spec_l01Is.j0, if_true]) (Ev.now _)
  unfold spec_l01Is.f
  refine Ev.bindv (spec_l01Prime_eq p) ?_
  unfold ballB
  cases hp : primeB p with
  | false => simpa using hno
  | true =>
    have hp2 := prime_lo hp
    simp only [if_true, Bool.true_and]
    refine Ev.bindv (In_eq L (-6) 6) ?_
    by_cases hL : -6 ≤ L ∧ L ≤ 6
    · rw [decide_eq_true hL]; simp only [if_true, Bool.true_and]
      refine Ev.bindv (In_eq D 0 6) ?_
      by_cases hD : 0 ≤ D ∧ D ≤ 6
      · rw [decide_eq_true hD]; simp only [Bool.not_true, Bool.true_and]
        have hn := wid (n := L + D) (by omega) (by omega)
        by_cases h0 : L + D ≤ 0
        · rw [if_pos h0]
          refine Ev.step (f := fun _ => some (T == 0 && D == 0)) (fun k => ?_) (Ev.now _)
          simp only [spec_l01Is.j0]
          rw [if_neg (by decide), hn, if_pos h0]
          by_cases hT : T = 0
          · simp [hT]
          · simp [hT]
        · rw [if_neg h0]
          refine Ev.step (f := fun k => (spec_l01Power.f k p (L + D)).bind fun t => (spec_l01In.f T 0 (wrap64 (t - 1))).bind fun t2 => if t2 = true then (if D = 0 then some true else if p = 0 then none else some (Int.tmod T p != 0)) else some false) (fun k => by simp only [spec_l01Is.j0]; rw [if_neg (by decide), hn, if_neg h0]) ?_
          refine Ev.bind (spec_l01Power_ev p (L + D) (by omega)) ?_
          rw [powW_prime hp _ (by omega)]
          have hpp := ipow_pos (p := p) (by omega) (L + D).toNat
          have hpt := pow_le_top hp (L + D).toNat (by omega)
          rw [wid (n := p ^ (L + D).toNat - 1) (by omega) (by omega)]
          refine Ev.bindv (In_eq _ _ _) ?_
          rw [show decide (0 ≤ T ∧ T ≤ p ^ (L + D).toNat - 1) = decide (0 ≤ T ∧ T < p ^ (L + D).toNat) from decide_eq_decide.2 (by omega)]
          cases decide (0 ≤ T ∧ T < p ^ (L + D).toNat) with
          | false => simp only [Bool.false_eq_true, if_false, Bool.false_and]; exact Ev.now _
          | true =>
            simp only [if_true, Bool.true_and]
            by_cases hd : D = 0
            · simp only [hd, if_true]; simp; exact Ev.now _
            · rw [if_neg hd, if_neg (by omega), show (D == 0) = false from beq_eq_false_iff_ne.2 hd, Bool.false_or]
              exact Ev.now _
      · rw [decide_eq_false hD]; simpa using hno
    · rw [decide_eq_false hL]; simpa using hno

def codeB (p : Int) (l : List S25) : Bool := primeB p && l.all (fun b => ballB p b.f0 b.f1 b.f2)
theorem spec_l01Code_ev (p : Int) (l : List S25) (hl : l.length ≤ 4611686018427387904) : Ev (fun k => spec_l01Code.f k p l) (if codeB p l then 0 else 1) := by
  unfold spec_l01Code.f codeB
  refine Ev.bindv (spec_l01Prime_eq p) ?_
  cases hp : primeB p with
  | false => simp; exact Ev.now _
  | true =>
    simp only [if_true, Bool.true_and]
    rw [← all_range_getD l z25]
    refine all_ev' (fun k i => spec_l01Code.l0 k p l i) l.length (fun i => ballB p (l.getD i z25).f0 (l.getD i z25).f1 (l.getD i z25).f2) 0 1 ?_ ?_ ?_
    · intro i r hi hb hr
      refine Ev.step (f := fun k => (spec_l01Is.f k p (l.getD i z25).f0 (l.getD i z25).f1 (l.getD i z25).f2).bind fun t => if t = true then spec_l01Code.l0 k p l ((i : Int) + 1) else some 1) (fun k => ?_) ?_
      · simp only [spec_l01Code.l0]
        rw [if_pos (by omega), if_pos (by omega), wid (by omega) (by omega)]; rfl
      · refine Ev.bind (spec_l01Is_ev _ _ _ _) ?_
        rw [hb]; simpa using hr
    · intro i hi hb
      refine Ev.step (f := fun k => (spec_l01Is.f k p (l.getD i z25).f0 (l.getD i z25).f1 (l.getD i z25).f2).bind fun t => if t = true then spec_l01Code.l0 k p l ((i : Int) + 1) else some 1) (fun k => ?_) ?_
      · simp only [spec_l01Code.l0]
        rw [if_pos (by omega), if_pos (by omega), wid (by omega) (by omega)]; rfl
      · refine Ev.bind (spec_l01Is_ev _ _ _ _) ?_
        rw [hb]; simp; exact Ev.now _
    · exact Ev.step (f := fun _ => some 0) (fun k => by simp only [spec_l01Code.l0]; rw [if_neg (by omega)]) (Ev.now _)

theorem impl_isPrime_eq (p : Int) : impl_isPrime.f p = some (primeB p) := by
  unfold impl_isPrime.f primeB
  by_cases h2 : p = 2
  · simp [h2]
  · by_cases h3 : p = 3
    · simp [h3]
    · by_cases h5 : p = 5
      · simp [h5]
      · rw [if_neg h2, if_neg h3, if_neg h5, beq_eq_false_iff_ne.2 h2, beq_eq_false_iff_ne.2 h3, beq_eq_false_iff_ne.2 h5]; rfl

theorem impl_IsBall_ev (p L T D : Int) : Ev (fun k => impl_IsBall.f k p L T D) (ballB p L T D) := by
  have hno : Ev (fun k => impl_IsBall.j0 k p true L T D) false := Ev.step (f := fun _ => some false) (fun k => by simp only [impl_IsBall.j0, if_true]) (Ev.now _)
  unfold impl_IsBall.f
  refine Ev.bindv (impl_isPrime_eq p) ?_
  unfold ballB
  cases hp : primeB p with
  | false => simpa using hno
  | true =>
    have hp2 := prime_lo hp
    simp only [if_true, Bool.true_and]
    refine Ev.bindv (impl_isLevel_eq L) ?_
    by_cases hL : -6 ≤ L ∧ L ≤ 6
    · rw [decide_eq_true hL]; simp only [if_true, Bool.true_and]
      by_cases hD0 : D < 0
      · rw [decide_eq_false (show ¬ (0 ≤ D ∧ D ≤ 6) by omega)]; simp only [if_pos hD0, Bool.false_and]; exact hno
      simp only [if_neg hD0]
      by_cases hD : 0 ≤ D ∧ D ≤ 6
      · rw [decide_eq_true hD, decide_eq_false (show ¬ D > 6 by omega)]; simp only [Bool.true_and]
        have hn := wid (n := L + D) (by omega) (by omega)
        by_cases h0 : L + D ≤ 0
        · rw [if_pos h0]
          refine Ev.step (f := fun _ => some (T == 0 && D == 0)) (fun k => ?_) (Ev.now _)
          simp only [impl_IsBall.j0]
          rw [if_neg (by decide), hn, if_pos h0]
          by_cases hT : T = 0
          · simp [hT]
          · simp [hT]
        · rw [if_neg h0]
          by_cases hT0 : T ≥ 0
          · refine Ev.step (f := fun k => (impl_power.f k p (L + D)).bind fun t => if T < t then (if D = 0 then some true else if p = 0 then none else some (Int.tmod T p != 0)) else some false) (fun k => by simp only [impl_IsBall.j0]; rw [if_neg (by decide), hn, if_neg h0, if_pos hT0]) ?_
            refine Ev.bind (impl_power_ev p (L + D) (by omega)) ?_
            rw [powW_prime hp _ (by omega)]
            by_cases hT1 : T < p ^ (L + D).toNat
            · rw [if_pos hT1, decide_eq_true (show 0 ≤ T ∧ T < p ^ (L + D).toNat from ⟨hT0, hT1⟩), Bool.true_and]
              by_cases hd : D = 0
              · simp only [hd, if_true]; simp; exact Ev.now _
              · rw [if_neg hd, if_neg (by omega), show (D == 0) = false from beq_eq_false_iff_ne.2 hd, Bool.false_or]
                exact Ev.now _
            · rw [if_neg hT1, decide_eq_false (show ¬ (0 ≤ T ∧ T < p ^ (L + D).toNat) from fun h => hT1 h.2), Bool.false_and]
              exact Ev.now _
          · rw [decide_eq_false (show ¬ (0 ≤ T ∧ T < p ^ (L + D).toNat) from fun h => hT0 h.1), Bool.false_and]
            refine Ev.step (f := fun _ => some false) (fun k => ?_) (Ev.now _)
            simp only [impl_IsBall.j0]
            rw [if_neg (by decide), hn, if_neg h0, if_neg hT0]
      · rw [decide_eq_false hD, decide_eq_true (show D > 6 by omega)]; simpa using hno
    · rw [decide_eq_false hL]; simpa using hno

theorem down_up {p L T D c : Int} (h : ballB p L T D = true) (hL : L ≠ 6) : parW p (chW p L T D c).1 (chW p L T D c).2.1 (chW p L T D c).2.2.1 = (L, T, D, true) := by
  have hp := (ball_parts h).1
  have hl := (ball_parts h).2.1
  have e0 : chW p L T D c = ((chM p L T D c).1, (chM p L T D c).2.1, (chM p L T D c).2.2, true) := by unfold chW; rw [if_neg hL]
  rw [e0]
  have e1 : (chM p L T D c).1 = L + 1 := rfl
  have e2 : parM p (L + 1) (chM p L T D c).2.1 (chM p L T D c).2.2 = (L, T, D) := by
    unfold chM
    rw [parM_up hp (by omega), ← ofM_mod, Int.add_mul_emod_self_right, ofM_mod, ofM_mark h]
  unfold parW
  show (if L + 1 = -6 then _ else _) = _
  rw [if_neg (by omega)]
  show ((parM p (L + 1) (chM p L T D c).2.1 (chM p L T D c).2.2).1, (parM p (L + 1) (chM p L T D c).2.1 (chM p L T D c).2.2).2.1, (parM p (L + 1) (chM p L T D c).2.1 (chM p L T D c).2.2).2.2, true) = _
  rw [e2]
theorem upB_self {p L T D : Int} (h : ballB p L T D = true) : upB p (markOf p T D) L = ⟨L, T, D⟩ := by unfold upB; rw [ofM_mark h]
def nb (p : Int) (b : S25) (k : Int) : Int × Int × Int × Bool := if k = 0 then parW p b.f0 b.f1 b.f2 else chW p b.f0 b.f1 b.f2 (k - 1)
def fit4 (x : S25) : Int × Int × Int × Bool := (x.f0, x.f1, x.f2, true)
def mkW (p : Int) (b : S25) : Int := markOf p b.f1 b.f2
def jnB (p : Int) (x c : S25) : Int := jnW p x.f0 c.f0 (mkW p x) (mkW p c)
def dsW (p : Int) (x c : S25) : Int := x.f0 + c.f0 - 2 * jnB p x c
theorem upB_f0 (p X n : Int) : (upB p X n).f0 = n := rfl
theorem upB_okB {p X n : Int} (hp : primeB p = true) (hn : -6 ≤ n ∧ n ≤ 6) : okB p (upB p X n) := upB_ok hp hn
theorem upB_mk {p X n : Int} (hp : primeB p = true) : mkW p (upB p X n) = X % p ^ (n + 6).toNat := upB_mark hp
theorem upB_eq {p X Y n : Int} (hp : 2 ≤ p) : upB p X n = upB p Y n ↔ X % p ^ (n + 6).toNat = Y % p ^ (n + 6).toNat := by
  rw [← ofM_inj hp]
  constructor
  · intro h
    have h1 : (ofM p n X).2.1 = (ofM p n Y).2.1 := congrArg (fun z => z.f1) h
    have h2 : (ofM p n X).2.2 = (ofM p n Y).2.2 := congrArg (fun z => z.f2) h
    exact Prod.ext rfl (Prod.ext h1 h2)
  · intro h; unfold upB; rw [h]
theorem self_up {p : Int} {y : S25} (hy : okB p y) : y = upB p (mkW p y) y.f0 := (upB_self hy).symm
theorem nb_par {p : Int} {y : S25} (hy : okB p y) (hL : y.f0 ≠ -6) : nb p y 0 = fit4 (upB p (mkW p y) (y.f0 - 1)) := by
  unfold nb parW; rw [if_pos rfl, if_neg hL]; rfl
theorem nb_chi {p k : Int} {y : S25} (hy : okB p y) (hk : k ≠ 0) (hL : y.f0 ≠ 6) : nb p y k = fit4 (upB p (mkW p y + (k - 1) * p ^ (y.f0 + 6).toNat) (y.f0 + 1)) := by
  unfold nb chW; rw [if_neg hk, if_neg hL]; rfl
theorem nb_no {p k : Int} {y : S25} : (nb p y k).2.2.2 = true ↔ (if k = 0 then y.f0 ≠ -6 else y.f0 ≠ 6) := by
  unfold nb parW chW
  by_cases hk : k = 0
  · rw [if_pos hk, if_pos hk]
    by_cases h : y.f0 = -6
    · rw [if_pos h]; simp [h]
    · rw [if_neg h]; simp [h]
  · rw [if_neg hk, if_neg hk]
    by_cases h : y.f0 = 6
    · rw [if_pos h]; simp [h]
    · rw [if_neg h]; simp [h]
theorem nb_up {p k : Int} {y : S25} (hy : okB p y) (hf : (nb p y k).2.2.2 = true) : ∃ X n, nb p y k = fit4 (upB p X n) ∧ (-6 ≤ n ∧ n ≤ 6) ∧ (if k = 0 then n = y.f0 - 1 ∧ X = mkW p y else n = y.f0 + 1 ∧ X = mkW p y + (k - 1) * p ^ (y.f0 + 6).toNat) := by
  have hl := (ball_parts hy).2.1
  rw [nb_no] at hf
  by_cases hk : k = 0
  · rw [if_pos hk] at hf
    subst hk
    exact ⟨_, _, nb_par hy hf, by omega, by rw [if_pos rfl]; exact ⟨rfl, rfl⟩⟩
  · rw [if_neg hk] at hf
    exact ⟨_, _, nb_chi hy hk hf, by omega, by rw [if_neg hk]; exact ⟨rfl, rfl⟩⟩
theorem fit_inj {x y : S25} (h : fit4 x = fit4 y) : x = y := by
  cases x; cases y
  simp only [fit4, Prod.mk.injEq] at h
  obtain ⟨rfl, rfl, rfl, _⟩ := h; rfl
theorem nb_okB {p k : Int} {y x : S25} (hy : okB p y) (h : nb p y k = fit4 x) : okB p x := by
  obtain ⟨X, n, e, hn, _⟩ := nb_up hy (k := k) (by rw [h]; rfl)
  rw [e] at h
  rw [← fit_inj h]
  exact upB_okB (ball_parts hy).1 hn
theorem ch_inj {p a b X q : Int} (hp : 0 < p) (hq : 0 < q) (ha : 0 ≤ a ∧ a < p) (hb : 0 ≤ b ∧ b < p) (h : (X + a * q) % (q * p) = (X + b * q) % (q * p)) : a = b := by
  have h1 := Int.emod_eq_emod_iff_emod_sub_eq_zero.1 h
  have h2 := Int.dvd_of_emod_eq_zero h1
  have e : X + a * q - (X + b * q) = q * (a - b) := by grind
  rw [e] at h2
  obtain ⟨m, hm⟩ := h2
  rw [Int.mul_assoc] at hm
  have h3 := Int.eq_of_mul_eq_mul_left (by omega) hm
  have h4 : m = 0 := by
    rcases Int.lt_trichotomy m 0 with c | c | c
    · have := Int.mul_le_mul_of_nonneg_left (show m ≤ -1 by omega) (show 0 ≤ p by omega); omega
    · exact c
    · have := Int.mul_le_mul_of_nonneg_left (show 1 ≤ m by omega) (show 0 ≤ p by omega); omega
  rw [h4] at h3; omega
theorem nb_inj {p k m : Int} {y x : S25} (hy : okB p y) (hk : 0 ≤ k ∧ k ≤ p) (hm : 0 ≤ m ∧ m ≤ p) (h1 : nb p y k = fit4 x) (h2 : nb p y m = fit4 x) : k = m := by
  obtain ⟨hp, hl, _⟩ := ball_parts hy
  have hp2 := prime_lo hp
  obtain ⟨X, n, e1, _, f1⟩ := nb_up hy (k := k) (by rw [h1]; rfl)
  obtain ⟨Y, m', e2, _, f2⟩ := nb_up hy (k := m) (by rw [h2]; rfl)
  have e : upB p X n = upB p Y m' := fit_inj (by rw [← e1, ← e2, h1, h2])
  have en : n = m' := congrArg (fun z => z.f0) e
  by_cases hk0 : k = 0
  · by_cases hm0 : m = 0
    · omega
    · rw [if_pos hk0] at f1; rw [if_neg hm0] at f2; omega
  · by_cases hm0 : m = 0
    · rw [if_neg hk0] at f1; rw [if_pos hm0] at f2; omega
    · rw [if_neg hk0] at f1; rw [if_neg hm0] at f2
      subst en
      rw [upB_eq hp2, f1.2, f2.2, f1.1, show (y.f0 + 1 + 6).toNat = (y.f0 + 6).toNat + 1 by omega, Int.pow_succ] at e
      have := ch_inj (by omega) (ipow_pos (p := p) (by omega) (y.f0 + 6).toNat) (a := k - 1) (b := m - 1) (by omega) (by omega) e
      omega
theorem nb_back {p k : Int} {y x : S25} (hy : okB p y) (h : nb p y k = fit4 x) : ∃ t, (0 ≤ t ∧ t ≤ p) ∧ nb p x t = fit4 y := by
  obtain ⟨hp, hl, _⟩ := ball_parts hy
  have hp2 := prime_lo hp
  have hx := nb_okB hy h
  have hf : (nb p y k).2.2.2 = true := by rw [h]; rfl
  rw [nb_no] at hf
  by_cases hk : k = 0
  · subst hk
    rw [if_pos rfl] at hf
    rw [nb_par hy hf] at h
    have e := fit_inj h
    obtain ⟨d, d1, d2⟩ := chM_dig (p := p) (X := mkW p y) (n := y.f0 - 1) hp (by omega)
    refine ⟨(d : Int) + 1, by omega, ?_⟩
    rw [← e]
    unfold nb chW
    rw [if_neg (by omega), if_neg (by rw [upB_f0]; omega), show (d : Int) + 1 - 1 = d by omega]
    have d3 : chM p (upB p (mkW p y) (y.f0 - 1)).f0 (upB p (mkW p y) (y.f0 - 1)).f1 (upB p (mkW p y) (y.f0 - 1)).f2 d = ofM p (y.f0 - 1 + 1) (mkW p y) := d2
    rw [d3, show y.f0 - 1 + 1 = y.f0 by omega]
    conv => rhs; rw [self_up hy]
    rfl
  · rw [if_neg hk] at hf
    refine ⟨0, by omega, ?_⟩
    have e0 := down_up (p := p) (c := k - 1) hy hf
    have e1 : chW p y.f0 y.f1 y.f2 (k - 1) = fit4 x := by rw [← h]; unfold nb; rw [if_neg hk]
    rw [e1] at e0
    unfold nb; rw [if_pos rfl]
    exact e0
theorem jn_iff {p : Int} {x c : S25} (hx : okB p x) (hc : okB p c) (j : Int) (hj : -6 ≤ j) : j ≤ jnB p x c ↔ j ≤ x.f0 ∧ j ≤ c.f0 ∧ p ^ (j + 6).toNat ∣ mkW p x - mkW p c := by
  obtain ⟨hp, hl, _⟩ := ball_parts hx
  have hp2 := prime_lo hp
  unfold jnB jnW
  rw [mn_min, mn_min]
  unfold valW
  by_cases hz : mkW p x - mkW p c = 0
  · rw [if_pos hz, hz]
    constructor
    · intro h; exact ⟨by omega, by omega, Int.dvd_zero _⟩
    · intro h; omega
  · rw [if_neg hz, val_dvd hp2 hz]
    omega
theorem jn_eq {p J : Int} {x c : S25} (hx : okB p x) (hc : okB p c) (hJ : -6 ≤ J) (h1 : J ≤ x.f0) (h2 : J ≤ c.f0) (h3 : p ^ (J + 6).toNat ∣ mkW p x - mkW p c) (h4 : ¬ (J + 1 ≤ x.f0 ∧ J + 1 ≤ c.f0 ∧ p ^ (J + 1 + 6).toNat ∣ mkW p x - mkW p c)) : jnB p x c = J := by
  have a := (jn_iff hx hc J hJ).2 ⟨h1, h2, h3⟩
  have b : ¬ J + 1 ≤ jnB p x c := fun h => h4 ((jn_iff hx hc (J + 1) (by omega)).1 h)
  omega
theorem jn_bd {p : Int} {x c : S25} (hx : okB p x) (hc : okB p c) : -6 ≤ jnB p x c ∧ jnB p x c ≤ x.f0 ∧ jnB p x c ≤ c.f0 := jnW_bd hx hc
theorem jn_dvd {p : Int} {x c : S25} (hx : okB p x) (hc : okB p c) : p ^ (jnB p x c + 6).toNat ∣ mkW p x - mkW p c := ((jn_iff hx hc _ (jn_bd hx hc).1).1 (Int.le_refl _)).2.2
theorem dvd_mod {p X Y : Int} {m n : Nat} (hm : m ≤ n) : p ^ m ∣ X % p ^ n - Y ↔ p ^ m ∣ X - Y := by
  have e := Int.emod_add_mul_ediv X (p ^ n)
  have h : p ^ m ∣ p ^ n * (X / p ^ n) := Int.dvd_trans ⟨p ^ (n - m), by rw [← Int.pow_add, Nat.add_sub_cancel' hm]⟩ (Int.dvd_mul_right _ _)
  constructor
  · intro h1
    have := Int.dvd_add h1 h
    rwa [show X % p ^ n - Y + p ^ n * (X / p ^ n) = X - Y by omega] at this
  · intro h1
    have := Int.dvd_sub h1 h
    rwa [show X - Y - p ^ n * (X / p ^ n) = X % p ^ n - Y by omega] at this
theorem dvd_pow' {p : Int} {m n : Nat} (hm : m ≤ n) : p ^ m ∣ p ^ n := ⟨p ^ (n - m), by rw [← Int.pow_add, Nat.add_sub_cancel' hm]⟩
theorem ds_self {p : Int} {c : S25} (hc : okB p c) : dsW p c c = 0 := by
  have hl := (ball_parts hc).2.1
  have : jnB p c c = c.f0 := jn_eq hc hc (by omega) (Int.le_refl _) (Int.le_refl _) (by rw [Int.sub_self]; exact Int.dvd_zero _) (fun h => by omega)
  unfold dsW; omega
theorem jn_up {p X n : Int} {c : S25} (hp : primeB p = true) (hc : okB p c) (hn : -6 ≤ n ∧ n ≤ 6) (J : Int) (hJ : -6 ≤ J) (h1 : J ≤ n) (h2 : J ≤ c.f0) (h3 : p ^ (J + 6).toNat ∣ X - mkW p c) (h4 : J + 1 ≤ n → J + 1 ≤ c.f0 → ¬ p ^ (J + 1 + 6).toNat ∣ X - mkW p c) : dsW p (upB p X n) c = n + c.f0 - 2 * J := by
  have : jnB p (upB p X n) c = J := by
    refine jn_eq (upB_okB hp hn) hc hJ h1 h2 ?_ ?_
    · rw [upB_mk hp]; exact (dvd_mod (by omega)).2 h3
    · rintro ⟨a1, a2, a3⟩
      rw [upB_f0] at a1
      rw [upB_mk hp] at a3
      exact h4 a1 a2 ((dvd_mod (by omega)).1 a3)
  unfold dsW; rw [this, upB_f0]
theorem nb_dist {p : Int} {y c : S25} (hy : okB p y) (hc : okB p c) (hne : dsW p y c ≠ 0) : ∃ t, (0 ≤ t ∧ t ≤ p) ∧ ∀ k x, 0 ≤ k → k ≤ p → nb p y k = fit4 x → (k = t → dsW p x c = dsW p y c - 1) ∧ (k ≠ t → dsW p x c = dsW p y c + 1) := by
  obtain ⟨hp, hl, _⟩ := ball_parts hy
  have hp2 := prime_lo hp
  have hlc := (ball_parts hc).2.1
  obtain ⟨j0, j1, j2⟩ := jn_bd hy hc
  have jd := jn_dvd hy hc
  have jno : jnB p y c + 1 ≤ y.f0 → jnB p y c + 1 ≤ c.f0 → ¬ p ^ (jnB p y c + 1 + 6).toNat ∣ mkW p y - mkW p c := fun a b h => by
    have := (jn_iff hy hc (jnB p y c + 1) (by omega)).2 ⟨a, b, h⟩; omega
  have ed : dsW p y c = y.f0 + c.f0 - 2 * jnB p y c := rfl
  generalize jnB p y c = J at j0 j1 j2 jd jno ed
  by_cases hJ : J < y.f0
  · refine ⟨0, by omega, fun k x hk0 hkp hx => ?_⟩
    obtain ⟨X, n, e, hn, f⟩ := nb_up hy (k := k) (by rw [hx]; rfl)
    rw [e] at hx
    rw [← fit_inj hx]
    by_cases hk : k = 0
    · rw [if_pos hk] at f
      obtain ⟨rfl, rfl⟩ := f
      refine ⟨fun _ => ?_, fun h => absurd hk h⟩
      rw [jn_up hp hc hn J j0 (by omega) j2 jd (fun a b => jno (by omega) b)]; omega
    · rw [if_neg hk] at f
      obtain ⟨rfl, rfl⟩ := f
      refine ⟨fun h => absurd h hk, fun _ => ?_⟩
      have sub (m : Nat) (hm : m ≤ (y.f0 + 6).toNat) : p ^ m ∣ mkW p y + (k - 1) * p ^ (y.f0 + 6).toNat - mkW p c ↔ p ^ m ∣ mkW p y - mkW p c := by
        have h1 : p ^ m ∣ (k - 1) * p ^ (y.f0 + 6).toNat := Int.dvd_trans (dvd_pow' hm) (Int.dvd_mul_left _ _)
        constructor
        · intro h; have := Int.dvd_sub h h1; rwa [show mkW p y + (k - 1) * p ^ (y.f0 + 6).toNat - mkW p c - (k - 1) * p ^ (y.f0 + 6).toNat = mkW p y - mkW p c by omega] at this
        · intro h; have := Int.dvd_add h h1; rwa [show mkW p y - mkW p c + (k - 1) * p ^ (y.f0 + 6).toNat = mkW p y + (k - 1) * p ^ (y.f0 + 6).toNat - mkW p c by omega] at this
      rw [jn_up hp hc hn J j0 (by omega) j2 ((sub _ (by omega)).2 jd) (fun a b h => jno (by omega) b ((sub _ (by omega)).1 h))]; omega
  · have hJe : J = y.f0 := by omega
    subst hJe
    have hlt : y.f0 < c.f0 := by omega
    obtain ⟨d, d1, d2⟩ := chM_dig (p := p) (X := mkW p c) (n := y.f0) hp (by omega)
    have hyc : y = upB p (mkW p c) y.f0 := by
      conv => lhs; rw [self_up hy]
      rw [upB_eq hp2]
      exact Int.emod_eq_emod_iff_emod_sub_eq_zero.2 (Int.emod_eq_zero_of_dvd jd)
    have d3 : nb p y ((d : Int) + 1) = fit4 (upB p (mkW p c) (y.f0 + 1)) := by
      unfold nb chW
      rw [if_neg (by omega), if_neg (by omega), show (d : Int) + 1 - 1 = d by omega]
      have d4 : chM p y.f0 y.f1 y.f2 d = ofM p (y.f0 + 1) (mkW p c) := by
        have : chM p y.f0 (upB p (mkW p c) y.f0).f1 (upB p (mkW p c) y.f0).f2 d = ofM p (y.f0 + 1) (mkW p c) := d2
        rw [← hyc] at this; exact this
      rw [d4]; rfl
    refine ⟨(d : Int) + 1, by omega, fun k x hk0 hkp hx => ⟨fun ht => ?_, fun ht => ?_⟩⟩
    · rw [ht, d3] at hx
      rw [← fit_inj hx, jn_up hp hc (by omega) (y.f0 + 1) (by omega) (Int.le_refl _) (by omega) (by rw [Int.sub_self]; exact Int.dvd_zero _) (fun a => by omega)]; omega
    · obtain ⟨X, n, e, hn, f⟩ := nb_up hy (k := k) (by rw [hx]; rfl)
      have hx2 := hx
      rw [e] at hx
      have ex := fit_inj hx
      by_cases hk : k = 0
      · rw [if_pos hk] at f
        obtain ⟨rfl, rfl⟩ := f
        rw [← ex, jn_up hp hc hn (y.f0 - 1) (by omega) (Int.le_refl _) (by omega) (Int.dvd_trans (dvd_pow' (by omega)) jd) (fun a => by omega)]; omega
      · rw [if_neg hk] at f
        obtain ⟨rfl, rfl⟩ := f
        have h1 : p ^ (y.f0 + 6).toNat ∣ (k - 1) * p ^ (y.f0 + 6).toNat := Int.dvd_mul_left _ _
        have h2 := Int.dvd_add jd h1
        rw [show mkW p y - mkW p c + (k - 1) * p ^ (y.f0 + 6).toNat = mkW p y + (k - 1) * p ^ (y.f0 + 6).toNat - mkW p c by omega] at h2
        rw [← ex, jn_up hp hc hn y.f0 j0 (by omega) j2 h2 (fun _ _ h => ?_)]
        · omega
        · have : upB p (mkW p y + (k - 1) * p ^ (y.f0 + 6).toNat) (y.f0 + 1) = upB p (mkW p c) (y.f0 + 1) := by
            rw [upB_eq hp2]; exact Int.emod_eq_emod_iff_emod_sub_eq_zero.2 (Int.emod_eq_zero_of_dvd h)
          rw [ex] at this
          rw [this] at hx2
          exact ht (nb_inj hy ⟨hk0, hkp⟩ (by omega) hx2 d3)
theorem nb_one {p k : Int} {c x : S25} (hc : okB p c) (h : nb p c k = fit4 x) : dsW p x c = 1 := by
  obtain ⟨hp, hl, _⟩ := ball_parts hc
  obtain ⟨X, n, e, hn, f⟩ := nb_up hc (k := k) (by rw [h]; rfl)
  rw [e] at h
  rw [← fit_inj h]
  by_cases hk : k = 0
  · rw [if_pos hk] at f
    obtain ⟨rfl, rfl⟩ := f
    rw [jn_up hp hc hn (c.f0 - 1) (by omega) (Int.le_refl _) (by omega) (by rw [Int.sub_self]; exact Int.dvd_zero _) (fun a => by omega)]; omega
  · rw [if_neg hk] at f
    obtain ⟨rfl, rfl⟩ := f
    rw [jn_up hp hc hn c.f0 (by omega) (by omega) (Int.le_refl _) (by rw [show mkW p c + (k - 1) * p ^ (c.f0 + 6).toNat - mkW p c = (k - 1) * p ^ (c.f0 + 6).toNat by omega]; exact Int.dvd_mul_left _ _) (fun _ b => by omega)]; omega

def sz (p : Int) : Nat → Int
  | 0 => 1
  | n + 1 => p * sz p n + 2
theorem sz_sph (p : Int) (n : Nat) : sz p (n + 1) = sz p n + (p + 1) * p ^ n := by
  have h : ∀ n : Nat, (p - 1) * sz p n + 2 = (p + 1) * p ^ n := by
    intro n
    induction n with
    | zero => simp [sz]; omega
    | succ n ih =>
      have e : (p - 1) * sz p (n + 1) + 2 = p * ((p - 1) * sz p n + 2) := by simp only [sz]; grind
      rw [e, ih, Int.pow_succ]; grind
  have := h n
  simp only [sz]
  grind
theorem sz_bd {p : Int} (hp : primeB p = true) {n : Nat} (hn : n ≤ 4) : 1 ≤ sz p n ∧ sz p n ≤ 3201 := by
  have h : n = 0 ∨ n = 1 ∨ n = 2 ∨ n = 3 ∨ n = 4 := by omega
  rcases prime_cases hp with rfl | rfl | rfl | rfl <;> rcases h with rfl | rfl | rfl | rfl | rfl <;> simp [sz]
theorem sz_pos {p : Int} (hp : 2 ≤ p) (n : Nat) : 1 ≤ sz p n := by
  induction n with
  | zero => simp [sz]
  | succ n ih => simp only [sz]; have := Int.mul_le_mul hp ih (by omega) (by omega); omega
theorem sph_bd {p : Int} (hp : primeB p = true) {n : Nat} (hn : n ≤ 5) : 1 ≤ (p + 1) * p ^ n ∧ (p + 1) * p ^ n ≤ 941192 := by
  have hp2 := prime_lo hp
  have hp7 := prime_hi hp
  have h1 := pow_6 hp n (by omega)
  have h2 := ipow_pos (p := p) (by omega) n
  have h3 := Int.mul_le_mul (show p + 1 ≤ 8 by omega) h1 (by omega) (by omega)
  have h4 := Int.mul_le_mul (show 1 ≤ p + 1 by omega) h2 (by omega) (by omega)
  omega
theorem impl_size_ev {p : Int} (hp : primeB p = true) {n : Nat} (hn : n ≤ 4) : Ev (fun k => impl_regionSize.f k p n) (sz p n) := by
  have hp2 := prime_lo hp
  have hp7 := prime_hi hp
  have key : ∀ d i : Nat, i + d = n → Ev (fun k => impl_regionSize.l0 k p (sz p i) ((p + 1) * p ^ i) n i) (sz p n) := by
    intro d
    induction d with
    | zero =>
      intro i hi
      obtain rfl : i = n := by omega
      refine Ev.up ?_
      simp only [impl_regionSize.l0, if_neg (show ¬ (i : Int) < (i : Int) by omega)]; exact Ev.now _
    | succ d ih =>
      intro i hi
      have h1 := sz_bd hp (n := i + 1) (by omega)
      have h2 := sph_bd hp (n := i + 1) (by omega)
      have e1 := sz_sph p i
      have e2 : (p + 1) * p ^ i * p = (p + 1) * p ^ (i + 1) := by rw [Int.pow_succ, Int.mul_assoc]
      refine Ev.up ?_
      simp only [impl_regionSize.l0, if_pos (show (i : Int) < (n : Int) by omega)]
      rw [wid (n := sz p i + (p + 1) * p ^ i) (by omega) (by omega), wid (n := (p + 1) * p ^ i * p) (by omega) (by omega), wid (n := (i : Int) + 1) (by omega) (by omega), ← e1, e2]
      exact ih (i + 1) (by omega)
  unfold impl_regionSize.f
  rw [wid (n := p + 1) (by omega) (by omega)]
  have := key n 0 (by omega)
  rw [Int.pow_zero, Int.mul_one] at this
  exact this
theorem spec_size_ev {p : Int} (hp : primeB p = true) {n : Nat} (hn : n ≤ 4) : Ev (fun k => spec_l07Size.f k p n) (sz p n) := by
  have hp2 := prime_lo hp
  have hp7 := prime_hi hp
  have key : ∀ d i : Nat, i + d = n → Ev (fun k => spec_l07Size.l0 k p d (sz p i) ((p + 1) * p ^ i)) (sz p n) := by
    intro d
    induction d with
    | zero =>
      intro i hi
      obtain rfl : i = n := by omega
      refine Ev.up ?_
      simp only [spec_l07Size.l0, if_neg (show ¬ ((0 : Nat) : Int) > 0 by omega)]; exact Ev.now _
    | succ d ih =>
      intro i hi
      have h1 := sz_bd hp (n := i + 1) (by omega)
      have h2 := sph_bd hp (n := i + 1) (by omega)
      have e1 := sz_sph p i
      have e2 : (p + 1) * p ^ i * p = (p + 1) * p ^ (i + 1) := by rw [Int.pow_succ, Int.mul_assoc]
      refine Ev.up ?_
      simp only [spec_l07Size.l0, if_pos (show ((d + 1 : Nat) : Int) > 0 by omega)]
      rw [wid (n := sz p i + (p + 1) * p ^ i) (by omega) (by omega), wid (n := (p + 1) * p ^ i * p) (by omega) (by omega), wid (n := ((d + 1 : Nat) : Int) - 1) (by omega) (by omega), ← e1, e2, show ((d + 1 : Nat) : Int) - 1 = (d : Int) from by omega]
      exact ih (i + 1) (by omega)
  unfold spec_l07Size.f
  rw [wid (n := p + 1) (by omega) (by omega)]
  have := key n 0 (by omega)
  rw [Int.pow_zero, Int.mul_one] at this
  exact this
def par (p i : Int) : Int := if i ≤ p + 1 then 0 else (i - p - 2) / p + 1
def fch (p i : Int) : Int := if i = 0 then 1 else p + 2 + (i - 1) * p
def cnt (p i : Int) : Nat := if i = 0 then (p + 1).toNat else p.toNat
theorem par_lt {p i : Int} (hp : 2 ≤ p) (hi : 1 ≤ i) : 0 ≤ par p i ∧ par p i < i := by
  unfold par
  by_cases h : i ≤ p + 1
  · rw [if_pos h]; omega
  · rw [if_neg h]
    have h1 := Int.ediv_nonneg (show 0 ≤ i - p - 2 by omega) (show 0 ≤ p by omega)
    have h2 := Int.ediv_le_self p (show 0 ≤ i - p - 2 by omega)
    omega
theorem par_child {p i : Int} {j : Nat} (hp : 2 ≤ p) (hi : 0 ≤ i) (hj : j < cnt p i) : par p (fch p i + j) = i := by
  unfold par fch
  unfold cnt at hj
  by_cases h : i = 0
  · rw [if_pos h] at hj ⊢
    rw [if_pos (by omega)]; exact h.symm
  · rw [if_neg h] at hj ⊢
    have h1 := Int.mul_nonneg (show 0 ≤ i - 1 by omega) (show 0 ≤ p by omega)
    rw [if_neg (by omega)]
    have e : p + 2 + (i - 1) * p + (j : Int) - p - 2 = (j : Int) + (i - 1) * p := by omega
    rw [e, Int.add_mul_ediv_right _ _ (by omega), Int.ediv_eq_zero_of_lt (by omega) (by omega)]
    omega
theorem child_lt {p i : Int} {j m : Nat} (hp : 2 ≤ p) (hi : 0 ≤ i) (hm : i < sz p m) (hj : j < cnt p i) : 1 ≤ fch p i + j ∧ fch p i + j < sz p (m + 1) := by
  unfold fch
  unfold cnt at hj
  have h0 := sz_pos hp m
  simp only [sz]
  have h2 := Int.mul_le_mul_of_nonneg_left (show i + 1 ≤ sz p m by omega) (show 0 ≤ p by omega)
  by_cases h : i = 0
  · rw [if_pos h] at hj ⊢
    subst h
    omega
  · rw [if_neg h] at hj ⊢
    have h1 := Int.mul_nonneg (show 0 ≤ i - 1 by omega) (show 0 ≤ p by omega)
    have e : (i - 1) * p = p * (i + 1) - 2 * p := by grind
    omega
theorem cnt_le {p : Int} (hp7 : p ≤ 7) (i : Int) : cnt p i ≤ 8 := by unfold cnt; split <;> omega
theorem impl_parent_eq {p i : Int} (hp : primeB p = true) (h0 : 0 ≤ i) (h1 : i ≤ 1000000) : impl_parentPlace.f p i = some (par p i) := by
  have hp2 := prime_lo hp
  have hp7 := prime_hi hp
  unfold impl_parentPlace.f par
  rw [wid (n := p + 1) (by omega) (by omega)]
  by_cases h : i ≤ p + 1
  · rw [if_pos h, if_pos h]
  · rw [if_neg h, if_neg h, if_neg (by omega)]
    have h2 := Int.ediv_nonneg (show 0 ≤ i - p - 2 by omega) (show 0 ≤ p by omega)
    have h3 := Int.ediv_le_self p (show 0 ≤ i - p - 2 by omega)
    rw [wid (n := i - p) (by omega) (by omega), wid (n := i - p - 2) (by omega) (by omega), tdiv_cast (show 0 ≤ i - p - 2 by omega), wid (n := (i - p - 2) / p) (by omega) (by omega), wid (n := (i - p - 2) / p + 1) (by omega) (by omega)]
theorem spec_parent_eq {p i : Int} (hp : primeB p = true) (h0 : 0 ≤ i) (h1 : i ≤ 1000000) : spec_l07Parent.f p i = some (par p i) := by
  have hp2 := prime_lo hp
  have hp7 := prime_hi hp
  unfold spec_l07Parent.f par
  rw [wid (n := p + 1) (by omega) (by omega)]
  by_cases h : i ≤ p + 1
  · rw [if_pos h, if_pos h]
  · rw [if_neg h, if_neg h, if_neg (by omega)]
    have h2 := Int.ediv_nonneg (show 0 ≤ i - p - 2 by omega) (show 0 ≤ p by omega)
    have h3 := Int.ediv_le_self p (show 0 ≤ i - p - 2 by omega)
    rw [wid (n := i - p) (by omega) (by omega), wid (n := i - p - 2) (by omega) (by omega), tdiv_cast (show 0 ≤ i - p - 2 by omega), wid (n := (i - p - 2) / p) (by omega) (by omega), wid (n := (i - p - 2) / p + 1) (by omega) (by omega)]
theorem fch_w {p i : Int} (hp : primeB p = true) (h0 : 0 ≤ i) (h1 : i ≤ 1000000) : 0 ≤ (i - 1 + 1) * p ∧ (i - 1 + 1) * p ≤ 7000000 := by
  have hp2 := prime_lo hp
  have hp7 := prime_hi hp
  have h2 := Int.mul_nonneg h0 (show 0 ≤ p by omega)
  have h3 := Int.mul_le_mul h1 hp7 (by omega) (by omega)
  rw [show i - 1 + 1 = i from by omega]; omega
theorem impl_first_eq {p i : Int} (hp : primeB p = true) (h0 : 0 ≤ i) (h1 : i ≤ 1000000) : impl_firstChild.f p i = some (fch p i) ∧ 1 ≤ fch p i ∧ fch p i ≤ 8000000 := by
  have hp2 := prime_lo hp
  have hp7 := prime_hi hp
  have hw := fch_w hp h0 h1
  rw [Int.add_mul, Int.one_mul] at hw
  unfold impl_firstChild.f fch
  by_cases h : i = 0
  · rw [if_pos h, if_pos h]; exact ⟨rfl, by omega, by omega⟩
  · have h2 := Int.mul_nonneg (show 0 ≤ i - 1 by omega) (show 0 ≤ p by omega)
    rw [if_neg h, if_neg h, wid (n := i - 1) (by omega) (by omega), wid (n := (i - 1) * p) (by omega) (by omega), wid (n := p + 2) (by omega) (by omega), wid (n := p + 2 + (i - 1) * p) (by omega) (by omega)]
    exact ⟨rfl, by omega, by omega⟩
theorem spec_child_eq {p i : Int} (hp : primeB p = true) (h0 : 0 ≤ i) (h1 : i ≤ 1000000) : spec_l07Child.f p i = some (fch p i, (cnt p i : Int)) := by
  have hp2 := prime_lo hp
  have hp7 := prime_hi hp
  have hw := fch_w hp h0 h1
  rw [Int.add_mul, Int.one_mul] at hw
  unfold spec_l07Child.f fch cnt
  by_cases h : i = 0
  · rw [if_pos h, if_pos h, if_pos h, wid (n := p + 1) (by omega) (by omega), Int.toNat_of_nonneg (by omega)]
  · have h2 := Int.mul_nonneg (show 0 ≤ i - 1 by omega) (show 0 ≤ p by omega)
    rw [if_neg h, if_neg h, if_neg h, wid (n := i - 1) (by omega) (by omega), wid (n := (i - 1) * p) (by omega) (by omega), wid (n := p + 2) (by omega) (by omega), wid (n := p + 2 + (i - 1) * p) (by omega) (by omega), Int.toNat_of_nonneg (by omega)]
def chs (p i : Int) : List Int := (List.range (cnt p i)).map (fun (j : Nat) => fch p i + (j : Int))
theorem chs_len (p i : Int) : (chs p i).length = cnt p i := by simp [chs]
theorem chs_rd {p i : Int} {j : Nat} (hj : j < cnt p i) : rd (chs p i) (j : Int) = fch p i + j := by
  unfold rd
  rw [Int.toNat_natCast, List.getD_eq_getElem?_getD]
  unfold chs
  rw [List.getElem?_map, List.getElem?_range hj]; rfl
theorem impl_childs_ev {p i : Int} (hp : primeB p = true) (h0 : 0 ≤ i) (h1 : i ≤ 1000000) : Ev (fun k => impl_childPlaces.f k p i) (chs p i) := by
  have hp2 := prime_lo hp
  have hp7 := prime_hi hp
  obtain ⟨e, f1, f2⟩ := impl_first_eq hp h0 h1
  have hc := cnt_le hp7 i
  have key : ∀ d j : Nat, j + d = cnt p i → Ev (fun k => impl_childPlaces.l0 k p i ((List.range j).map (fun (q : Nat) => fch p i + (q : Int))) (cnt p i) j) (chs p i) := by
    intro d
    induction d with
    | zero =>
      intro j hj
      obtain rfl : j = cnt p i := by omega
      refine Ev.up ?_
      simp only [impl_childPlaces.l0, if_neg (show ¬ ((cnt p i : Nat) : Int) < ((cnt p i : Nat) : Int) by omega)]; exact Ev.now _
    | succ d ih =>
      intro j hj
      refine Ev.up ?_
      simp only [impl_childPlaces.l0, if_pos (show (j : Int) < ((cnt p i : Nat) : Int) by omega)]
      refine Ev.bindv e ?_
      simp only [List.length_map, List.length_range, if_pos (show j < 17592186044416 by omega)]
      rw [wid (n := fch p i + (j : Int)) (by omega) (by omega), wid (n := (j : Int) + 1) (by omega) (by omega)]
      have := ih (j + 1) (by omega)
      rw [List.range_succ, List.map_append] at this
      exact this
  have k0 := key (cnt p i) 0 (by omega)
  unfold impl_childPlaces.f
  by_cases h : i = 0
  · simp only [if_pos h]
    have ec : ((cnt p i : Nat) : Int) = p + 1 := by unfold cnt; rw [if_pos h]; omega
    rw [ec] at k0
    rw [wid (n := p + 1) (by omega) (by omega)]
    exact Ev.up k0
  · simp only [if_neg h]
    have ec : ((cnt p i : Nat) : Int) = p := by unfold cnt; rw [if_neg h]; omega
    rw [ec] at k0
    exact Ev.up k0
theorem eq_test {x y : S25} : (x.f0 == y.f0 && (x.f1 == y.f1 && (x.f2 == y.f2))) = true ↔ x = y := by
  cases x; cases y
  simp
theorem toward_ev {p t : Int} {y x : S25} (hy : okB p y) (ht : 0 ≤ t ∧ t ≤ p) (h : nb p y t = fit4 x) : Ev (fun k => impl_toward.f k p y.f0 y.f1 y.f2 x.f0 x.f1 x.f2) t := by
  have hp := (ball_parts hy).1
  have hp2 := prime_lo hp
  have hp7 := prime_hi hp
  have key : ∀ (d : Nat) (i : Int), i + d = p + 1 → 1 ≤ i → (t = 0 ∨ i ≤ t) → Ev (fun k => impl_toward.l0 k p i y.f0 y.f1 y.f2 x.f0 x.f1 x.f2) t := by
    intro d
    induction d with
    | zero =>
      intro i hi h1 h2
      refine Ev.up ?_
      simp only [impl_toward.l0, if_neg (show ¬ i ≤ p by omega)]
      obtain rfl : t = 0 := by omega
      exact Ev.now _
    | succ d ih =>
      intro i hi h1 h2
      refine Ev.up ?_
      simp only [impl_toward.l0, if_pos (show i ≤ p by omega)]
      have e := impl_neighbour_ev (p := p) (L := y.f0) (T := y.f1) (D := y.f2) i hy (by omega)
      refine Ev.bind e ?_
      rw [show (if i = 0 then parW p y.f0 y.f1 y.f2 else chW p y.f0 y.f1 y.f2 (i - 1)) = nb p y i from rfl, wid (n := i + 1) (by omega) (by omega)]
      have go : i ≠ t → Ev (fun k => impl_toward.l0 k p (i + 1) y.f0 y.f1 y.f2 x.f0 x.f1 x.f2) t := fun hne => ih (i + 1) (by omega) (by omega) (by omega)
      cases hf : (nb p y i).2.2.2 with
      | false =>
        simp only [Bool.false_eq_true, if_false]
        exact go (fun he => by rw [he, h] at hf; cases hf)
      | true =>
        obtain ⟨X, n, ex, _⟩ := nb_up hy hf
        rw [ex]
        simp only [if_true]
        by_cases he : upB p X n = x
        · rw [he] at ex ⊢
          have := nb_inj hy (k := i) (by omega) ht ex h
          simp only [fit4, eq_test.2 rfl, if_true, this]
          exact Ev.now _
        · have : ((fit4 (upB p X n)).1 == x.f0 && ((fit4 (upB p X n)).2.1 == x.f1 && ((fit4 (upB p X n)).2.2.1 == x.f2))) = false := by
            rw [Bool.eq_false_iff]; exact fun hh => he (eq_test.1 hh)
          rw [this]
          simp only [Bool.false_eq_true, if_false]
          exact go (fun hit => he (fit_inj (by rw [← ex, hit, h])))
  unfold impl_toward.f
  exact key p.toNat 1 (by omega) (by omega) (by omega)
def skipT (t s : Int) : Int := if s < t then s else s + 1
def cntE (sm : Bool) (t i e : Int) : Int := e - i - (if sm = true ∧ i < t ∧ t ≤ e then 1 else 0)
theorem next_l0 {p t e : Int} {sm : Bool} {y w : S25} (hy : okB p y) (ht : sm = true → (0 ≤ t ∧ t ≤ p) ∧ nb p y t = fit4 w) (he : 0 ≤ e ∧ e < p) (hne : ¬ (sm = true ∧ e + 1 = t)) (d : Nat) : ∀ i : Int, i + d = e → 0 ≤ i → Ev (fun k => spec_l07Next.l0 k p sm (cntE sm t i e) i y.f0 y.f1 y.f2 w.f0 w.f1 w.f2) (nb p y (e + 1)) := by
  have hp := (ball_parts hy).1
  have hp2 := prime_lo hp
  have hp7 := prime_hi hp
  have child (i : Int) (h0 : 0 ≤ i) (h1 : i < p) : Ev (fun k => spec_l01Child.f k p y.f0 y.f1 y.f2 i) (nb p y (i + 1)) := by
    have := spec_l01Child_ev (p := p) (L := y.f0) (T := y.f1) (D := y.f2) (c := i) hy (by omega)
    unfold nb; rw [if_neg (by omega), show i + 1 - 1 = i by omega]; exact this
  have test (i : Int) (h0 : 0 ≤ i) (h1 : i < p) (hs : sm = true) (hf : (nb p y (i + 1)).2.2.2 = true) : ((nb p y (i + 1)).1 == w.f0 && ((nb p y (i + 1)).2.1 == w.f1 && ((nb p y (i + 1)).2.2.1 == w.f2))) = decide (i + 1 = t) := by
    obtain ⟨X, n, ex, _⟩ := nb_up hy hf
    obtain ⟨t0, t1⟩ := ht hs
    rw [ex]
    by_cases hi : i + 1 = t
    · rw [decide_eq_true hi]
      rw [← hi, ex] at t1
      rw [fit_inj t1]; exact eq_test.2 rfl
    · rw [decide_eq_false hi, Bool.eq_false_iff]
      intro hh
      have hw : upB p X n = w := eq_test.1 hh
      rw [hw] at ex
      exact hi (nb_inj hy (by omega) t0 ex t1)
  have step (i : Int) (h0 : 0 ≤ i) (h1 : i < p) (g : Nat → Bool → Option (Int × Int × Int × Bool)) (r : Int × Int × Int × Bool) (hr : Ev (fun k => g k (sm && decide (i + 1 = t))) r) : Ev (fun k => if sm = true then (if (nb p y (i + 1)).2.2.2 = true then g k ((nb p y (i + 1)).1 == w.f0 && ((nb p y (i + 1)).2.1 == w.f1 && ((nb p y (i + 1)).2.2.1 == w.f2))) else g k false) else g k false) r := by
    cases hs : sm with
    | false => rw [hs] at hr; simpa using hr
    | true =>
      rw [hs, Bool.true_and] at hr
      simp only [if_true]
      cases hf : (nb p y (i + 1)).2.2.2 with
      | true => simp only [if_true]; rw [test i h0 h1 hs hf]; exact hr
      | false =>
        have hi : ¬ i + 1 = t := fun h => by rw [h, (ht hs).2] at hf; cases hf
        rw [decide_eq_false hi] at hr
        simpa using hr
  induction d with
  | zero =>
    intro i hi h0
    obtain rfl : i = e := by omega
    have e0 : cntE sm t i i = 0 := by unfold cntE; rw [if_neg (by omega)]; omega
    rw [e0]
    refine Ev.up ?_
    simp only [spec_l07Next.l0, if_pos (show i < p by omega)]
    refine Ev.bind (child i h0 he.2) ?_
    refine step i h0 he.2 (fun k b => spec_l07Next.j3 k p sm 0 i (nb p y (i + 1)).2.2.2 b y.f0 y.f1 y.f2 w.f0 w.f1 w.f2 (nb p y (i + 1)).1 (nb p y (i + 1)).2.1 (nb p y (i + 1)).2.2.1) _ ?_
    have : (sm && decide (i + 1 = t)) = false := by
      rw [Bool.eq_false_iff]; intro h; rw [Bool.and_eq_true, decide_eq_true_eq] at h; exact hne h
    rw [this]
    refine Ev.up ?_
    simp only [spec_l07Next.j3, Bool.false_eq_true, if_false, if_true]
    exact Ev.now _
  | succ d ih =>
    intro i hi h0
    refine Ev.up ?_
    simp only [spec_l07Next.l0, if_pos (show i < p by omega)]
    refine Ev.bind (child i h0 (by omega)) ?_
    refine step i h0 (by omega) (fun k b => spec_l07Next.j3 k p sm (cntE sm t i e) i (nb p y (i + 1)).2.2.2 b y.f0 y.f1 y.f2 w.f0 w.f1 w.f2 (nb p y (i + 1)).1 (nb p y (i + 1)).2.1 (nb p y (i + 1)).2.2.1) _ ?_
    refine Ev.up ?_
    simp only [spec_l07Next.j3]
    have hn := ih (i + 1) (by omega) (by omega)
    rw [wid (n := i + 1) (by omega) (by omega)]
    by_cases hs : sm = true ∧ i + 1 = t
    · have : (sm && decide (i + 1 = t)) = true := by rw [hs.1, decide_eq_true hs.2]; rfl
      rw [this]
      simp only [if_true]
      have ec : cntE sm t i e = cntE sm t (i + 1) e := by
        unfold cntE
        rw [if_pos ⟨hs.1, by omega, by omega⟩, if_neg (by omega)]; omega
      rw [ec]; exact hn
    · have : (sm && decide (i + 1 = t)) = false := by
        rw [Bool.eq_false_iff]; intro h; rw [Bool.and_eq_true, decide_eq_true_eq] at h; exact hs h
      rw [this]
      simp only [Bool.false_eq_true, if_false]
      have ec : cntE sm t i e = cntE sm t (i + 1) e + 1 ∧ 0 ≤ cntE sm t (i + 1) e ∧ cntE sm t (i + 1) e ≤ 10 := by
        unfold cntE
        by_cases hsm : sm = true
        · by_cases h1 : i + 1 < t ∧ t ≤ e
          · rw [if_pos ⟨hsm, by omega, h1.2⟩, if_pos ⟨hsm, h1⟩]; omega
          · have : ¬ (i < t ∧ t ≤ e) := fun h => by
              have : i + 1 = t := by omega
              exact hs ⟨hsm, this⟩
            rw [if_neg (fun h => this h.2), if_neg (fun h => h1 h.2)]; omega
        · rw [if_neg (fun h => hsm h.1), if_neg (fun h => hsm h.1)]; omega
      rw [ec.1]
      simp only [if_neg (show ¬ cntE sm t (i + 1) e + 1 = 0 by omega)]
      rw [wid (n := cntE sm t (i + 1) e + 1 - 1) (by omega) (by omega), show cntE sm t (i + 1) e + 1 - 1 = cntE sm t (i + 1) e by omega]
      exact hn
theorem next_ev {p t s : Int} {sm : Bool} {y w : S25} (hy : okB p y) (ht : sm = true → (0 ≤ t ∧ t ≤ p) ∧ nb p y t = fit4 w) (hs : 0 ≤ s ∧ (if sm = true then s < p else s ≤ p)) : Ev (fun k => spec_l07Next.f k p y.f0 y.f1 y.f2 w.f0 w.f1 w.f2 sm s) (nb p y (if sm = true then skipT t s else s)) := by
  have hp := (ball_parts hy).1
  have hp2 := prime_lo hp
  have hp7 := prime_hi hp
  have par := spec_l01Parent_ev (p := p) (L := y.f0) (T := y.f1) (D := y.f2) hy
  have e0 : parW p y.f0 y.f1 y.f2 = nb p y 0 := by unfold nb; rw [if_pos rfl]
  rw [e0] at par
  have one : (sm = true → t ≠ 0) → Ev (fun k => spec_l07Next.j0 k p sm s (nb p y 0).2.2.2 true y.f0 y.f1 y.f2 w.f0 w.f1 w.f2 (nb p y 0).1 (nb p y 0).2.1 (nb p y 0).2.2.1) (nb p y (if sm = true then skipT t s else s)) := by
    intro hne
    refine Ev.up ?_
    simp only [spec_l07Next.j0, if_true]
    by_cases h0 : s = 0
    · have : (if sm = true then skipT t s else s) = 0 := by
        split
        · rename_i hsm
          have := hne hsm
          have := (ht hsm).1
          unfold skipT; rw [if_pos (by omega)]; exact h0
        · exact h0
      rw [this]
      simp only [if_pos h0]; exact Ev.now _
    · simp only [if_neg h0]
      rw [wid (n := s - 1) (by omega) (by split at hs <;> omega)]
      refine Ev.up ?_
      simp only [spec_l07Next.j1]
      have key := next_l0 (e := (if sm = true then skipT t s else s) - 1) hy ht (by
        split
        · rename_i hsm; rw [if_pos hsm] at hs; unfold skipT; split <;> omega
        · rename_i hsm; rw [if_neg hsm] at hs; omega) (by
        rintro ⟨hsm, h⟩
        rw [if_pos hsm] at h
        unfold skipT at h; split at h <;> omega) ((if sm = true then skipT t s else s) - 1).toNat 0 (by
        split
        · unfold skipT; split <;> omega
        · omega) (by omega)
      have ec : cntE sm t 0 ((if sm = true then skipT t s else s) - 1) = s - 1 := by
        unfold cntE
        by_cases hsm : sm = true
        · have := hne hsm
          have := (ht hsm).1
          simp only [if_pos hsm]
          unfold skipT
          by_cases hlt : s < t
          · rw [if_pos hlt, if_neg (by omega)]; omega
          · rw [if_neg hlt, if_pos ⟨hsm, by omega, by omega⟩]; omega
        · simp only [if_neg hsm]; rw [if_neg (fun h => hsm h.1)]; omega
      rw [ec, show (if sm = true then skipT t s else s) - 1 + 1 = (if sm = true then skipT t s else s) by omega] at key
      exact key
  unfold spec_l07Next.f
  refine Ev.bind par ?_
  cases hsm : sm with
  | false =>
    have := one (fun h => by rw [hsm] at h; cases h)
    rw [hsm] at this
    simpa using this
  | true =>
    obtain ⟨t0, t1⟩ := ht hsm
    simp only [if_true]
    cases hf : (nb p y 0).2.2.2 with
    | false =>
      simp only [Bool.false_eq_true, if_false]
      have := one (fun _ h => by rw [h] at t1; rw [t1] at hf; cases hf)
      rw [hsm, hf] at this
      simpa using this
    | true =>
      simp only [if_true]
      obtain ⟨X, n, ex, _⟩ := nb_up hy hf
      by_cases hz : t = 0
      · rw [hz] at t1
        rw [t1]
        have : (!((fit4 w).1 == w.f0) || (!((fit4 w).2.1 == w.f1) || (!((fit4 w).2.2.1 == w.f2)))) = false := by simp [fit4]
        rw [this]
        refine Ev.up ?_
        simp only [spec_l07Next.j0, Bool.false_eq_true, if_false]
        refine Ev.up ?_
        simp only [spec_l07Next.j1]
        rw [hsm] at hs
        simp only [if_true] at hs
        have key := next_l0 (sm := true) (t := 0) (e := s) (w := w) hy (fun _ => ⟨by omega, t1⟩) ⟨hs.1, hs.2⟩ (by omega) s.toNat 0 (by omega) (by omega)
        have ec : cntE true 0 0 s = s := by unfold cntE; rw [if_neg (by omega)]; omega
        rw [ec] at key
        have e2 : skipT t s = s + 1 := by unfold skipT; rw [if_neg (by omega)]
        rw [e2]; exact key
      · have hne : (!((nb p y 0).1 == w.f0) || (!((nb p y 0).2.1 == w.f1) || (!((nb p y 0).2.2.1 == w.f2)))) = true := by
          rw [ex]
          cases hb : (!((fit4 (upB p X n)).1 == w.f0) || (!((fit4 (upB p X n)).2.1 == w.f1) || (!((fit4 (upB p X n)).2.2.1 == w.f2)))) with
          | true => rfl
          | false =>
            exfalso
            have hw : upB p X n = w := eq_test.1 (by
              simp only [fit4, Bool.or_eq_false_iff, Bool.not_eq_false'] at hb
              simp only [Bool.and_eq_true]; exact hb)
            rw [hw] at ex
            exact hz (nb_inj hy t0 (by omega) t1 ex)
        rw [hne]
        have := one (fun _ => hz)
        rw [hsm, hf] at this
        simpa using this

def toB (z : Int × Int × Int × Bool) : S25 := ⟨z.1, z.2.1, z.2.2.1⟩
theorem toB_fit {z : Int × Int × Int × Bool} (h : z.2.2.2 = true) : z = fit4 (toB z) := by
  obtain ⟨a, b, c, d⟩ := z
  simp only at h; subst h; rfl
def stp (p : Int) (now ahead : S25) (sm : Bool) (s : Int) (z : Int × Int × Int × Bool) : Prop := (0 ≤ s ∧ (if sm = true then s < p else s ≤ p)) ∧ ∃ t, (sm = true → (0 ≤ t ∧ t ≤ p) ∧ nb p now t = fit4 ahead) ∧ z = nb p now (if sm = true then skipT t s else s)
def came (p : Int) (now ahead : S25) (sm : Bool) : Prop := sm = true → ∃ t, (0 ≤ t ∧ t ≤ p) ∧ nb p now t = fit4 ahead
theorem stp_next {p s : Int} {now ahead : S25} {sm : Bool} {z : Int × Int × Int × Bool} (hy : okB p now) (h : stp p now ahead sm s z) : Ev (fun k => spec_l07Next.f k p now.f0 now.f1 now.f2 ahead.f0 ahead.f1 ahead.f2 sm s) z := by
  obtain ⟨h1, t, h2, h3⟩ := h
  rw [h3]; exact next_ev hy h2 h1
theorem stp_idx {p s : Int} {now ahead : S25} {sm : Bool} {z : Int × Int × Int × Bool} (hp : 2 ≤ p) (h : stp p now ahead sm s z) : ∃ i, (0 ≤ i ∧ i ≤ p) ∧ z = nb p now i ∧ (sm = true → ∃ t, (0 ≤ t ∧ t ≤ p) ∧ nb p now t = fit4 ahead ∧ t ≠ i ∧ i = skipT t s) ∧ (sm = false → i = s) := by
  obtain ⟨h1, t, h2, h3⟩ := h
  refine ⟨_, ?_, h3, fun hs => ?_, fun hs => ?_⟩
  · cases sm with
    | true => simp only [if_true] at h1 ⊢; unfold skipT; split <;> omega
    | false => simp only [Bool.false_eq_true, if_false] at h1 ⊢; omega
  · refine ⟨t, (h2 hs).1, (h2 hs).2, ?_, by rw [if_pos hs]⟩
    rw [if_pos hs]; unfold skipT; split <;> omega
  · rw [hs]; simp
theorem stp_ex {p s : Int} {now ahead : S25} {sm : Bool} (hc : came p now ahead sm) (h1 : 0 ≤ s ∧ (if sm = true then s < p else s ≤ p)) : ∃ z, stp p now ahead sm s z := by
  cases sm with
  | false => exact ⟨_, h1, 0, (fun h => by cases h), rfl⟩
  | true =>
    obtain ⟨t, t1, t2⟩ := hc rfl
    exact ⟨_, h1, t, fun _ => ⟨t1, t2⟩, rfl⟩
def outR (p : Int) : S25 → S25 → Bool → List Int → Option (S25 × S25) → Prop
  | now, ahead, _, [], o => o = some (now, ahead)
  | now, ahead, sm, s :: ss, o => ∃ z, stp p now ahead sm s z ∧ (if z.2.2.2 = true then outR p (toB z) now true ss o else o = none)
theorem step_in {p s : Int} {now ahead : S25} {sm : Bool} {z : Int × Int × Int × Bool} (hy : okB p now) (h : stp p now ahead sm s z) (hz : z.2.2.2 = true) : okB p (toB z) ∧ came p (toB z) now true := by
  have hp2 := prime_lo (ball_parts hy).1
  obtain ⟨i, _, i2, _⟩ := stp_idx hp2 h
  have e : nb p now i = fit4 (toB z) := by rw [← i2]; exact toB_fit hz
  exact ⟨nb_okB hy e, fun _ => nb_back hy e⟩
theorem out_ex {p : Int} (ss : List Int) : ∀ (now ahead : S25) (sm : Bool), okB p now → came p now ahead sm → (∀ s ∈ ss.tail, 0 ≤ s ∧ s < p) → (∀ s, ss.head? = some s → 0 ≤ s ∧ (if sm = true then s < p else s ≤ p)) → ∃ o, outR p now ahead sm ss o := by
  induction ss with
  | nil => intro now ahead sm _ _ _ _; exact ⟨_, rfl⟩
  | cons s ss ih =>
    intro now ahead sm hy hc ht hh
    obtain ⟨z, hz⟩ := stp_ex hc (hh s rfl)
    cases hf : z.2.2.2 with
    | false => exact ⟨none, z, hz, by rw [hf]; simp⟩
    | true =>
      obtain ⟨a1, a2⟩ := step_in hy hz hf
      obtain ⟨o, ho⟩ := ih (toB z) now true a1 a2 (fun x hx => ht x (List.mem_of_mem_tail hx)) (fun x hx => by
        have := ht x (by
          cases ss with
          | nil => cases hx
          | cons q qs => simp only [List.head?_cons, Option.some.injEq] at hx; subst hx; simp)
        simpa using this)
      exact ⟨o, z, hz, by rw [if_pos hf]; exact ho⟩
theorem out_dist {p : Int} {e a : S25} (ss : List Int) : ∀ (now ahead : S25) (sm : Bool), okB p now → came p now ahead sm → outR p now ahead sm ss (some (e, a)) → okB p e ∧ dsW p now e = ss.length ∧ (sm = true → dsW p ahead e = ss.length + 1) := by
  induction ss with
  | nil =>
    intro now ahead sm hy hc h
    obtain ⟨rfl, rfl⟩ : e = now ∧ a = ahead := by
      have : some (e, a) = some (now, ahead) := h
      simpa using this
    refine ⟨hy, by rw [ds_self hy]; rfl, fun hs => ?_⟩
    obtain ⟨t, _, t2⟩ := hc hs
    rw [nb_one hy t2]; rfl
  | cons s ss ih =>
    intro now ahead sm hy hc h
    obtain ⟨z, hz, h2⟩ := h
    have hp2 := prime_lo (ball_parts hy).1
    cases hf : z.2.2.2 with
    | false => rw [hf] at h2; simp at h2
    | true =>
      rw [if_pos hf] at h2
      obtain ⟨a1, a2⟩ := step_in hy hz hf
      obtain ⟨b1, b2, b3⟩ := ih (toB z) now true a1 a2 h2
      have b3 := b3 rfl
      have e1 : ((s :: ss).length : Int) = (ss.length : Int) + 1 := by simp
      refine ⟨b1, by rw [e1]; exact b3, fun hs => ?_⟩
      obtain ⟨i, i1, i2, i3, _⟩ := stp_idx hp2 hz
      obtain ⟨t, t1, t2, t3, _⟩ := i3 hs
      obtain ⟨q, q1, q2⟩ := nb_dist hy b1 (by omega)
      have hi := q2 i (toB z) i1.1 i1.2 (by rw [← i2]; exact toB_fit hf)
      have hq : i = q := Classical.byContradiction fun hne => by have := hi.2 hne; omega
      have := (q2 t ahead t1.1 t1.2 t2).2 (by omega)
      rw [e1]; omega
theorem spec_dist_ev {p : Int} {x c : S25} (hx : okB p x) (hc : okB p c) : Ev (fun k => spec_l02Distance.f k p x.f0 x.f1 x.f2 c.f0 c.f1 c.f2) (dsW p x c) := by
  have l1 := (ball_parts hx).2.1
  have l2 := (ball_parts hc).2.1
  have b := jn_bd hx hc
  have e : dsW p x c = x.f0 + c.f0 - 2 * jnW p x.f0 c.f0 (markOf p x.f1 x.f2) (markOf p c.f1 c.f2) := rfl
  have b' : -6 ≤ jnW p x.f0 c.f0 (markOf p x.f1 x.f2) (markOf p c.f1 c.f2) ∧ jnW p x.f0 c.f0 (markOf p x.f1 x.f2) (markOf p c.f1 c.f2) ≤ x.f0 ∧ jnW p x.f0 c.f0 (markOf p x.f1 x.f2) (markOf p c.f1 c.f2) ≤ c.f0 := b
  unfold spec_l02Distance.f
  refine Ev.bind (spec_l02Join_ev hx hc) ?_
  rw [wid (n := x.f0 + c.f0) (by omega) (by omega), wid (n := 2 * _) (by omega) (by omega), wid (by omega) (by omega), e]
  exact Ev.now _
theorem impl_dist_ev {p : Int} {x c : S25} (hx : okB p x) (hc : okB p c) : Ev (fun k => impl_distance.f k p x.f0 x.f1 x.f2 c.f0 c.f1 c.f2) (dsW p x c) := by
  have l1 := (ball_parts hx).2.1
  have l2 := (ball_parts hc).2.1
  have b := jn_bd hx hc
  have e : dsW p x c = x.f0 + c.f0 - 2 * jnW p x.f0 c.f0 (markOf p x.f1 x.f2) (markOf p c.f1 c.f2) := rfl
  have b' : -6 ≤ jnW p x.f0 c.f0 (markOf p x.f1 x.f2) (markOf p c.f1 c.f2) ∧ jnW p x.f0 c.f0 (markOf p x.f1 x.f2) (markOf p c.f1 c.f2) ≤ x.f0 ∧ jnW p x.f0 c.f0 (markOf p x.f1 x.f2) (markOf p c.f1 c.f2) ≤ c.f0 := b
  unfold impl_distance.f
  refine Ev.bind (impl_joinLevel_ev hx hc) ?_
  rw [wid (n := x.f0 + c.f0) (by omega) (by omega), wid (n := 2 * _) (by omega) (by omega), wid (by omega) (by omega), e]
  exact Ev.now _
def plc (p : Int) : Int → List Int → Int
  | q, [] => q
  | q, s :: ss => plc p (fch p q + s) ss
theorem slot_cnt {p q s : Int} {sm : Bool} (hq : sm = true ↔ q ≠ 0) (hp : 2 ≤ p) (h : 0 ≤ s ∧ (if sm = true then s < p else s ≤ p)) : s.toNat < cnt p q ∧ s = (s.toNat : Int) := by
  refine ⟨?_, by omega⟩
  unfold cnt
  by_cases h0 : q = 0
  · rw [if_pos h0]
    have : sm = false := by cases sm with | false => rfl | true => exact absurd h0 (hq.1 rfl)
    rw [this] at h; simp only [Bool.false_eq_true, if_false] at h; omega
  · rw [if_neg h0]
    rw [hq.2 h0] at h; simp only [if_true] at h; omega
theorem stp_other {p s i : Int} {now ahead : S25} {sm : Bool} {z : Int × Int × Int × Bool} (h : stp p now ahead sm s z) (h0 : 0 ≤ i) (hi : i < s) : ∃ z', stp p now ahead sm i z' := by
  obtain ⟨h1, t, h2, _⟩ := h
  exact ⟨_, ⟨h0, by cases sm with | true => simp only [if_true] at h1 ⊢; omega | false => simp only [Bool.false_eq_true, if_false] at h1 ⊢; omega⟩, t, h2, rfl⟩
theorem stp_ne {p s i : Int} {now ahead : S25} {sm : Bool} {z z' : Int × Int × Int × Bool} {a b : Int} (hy : okB p now) (h : stp p now ahead sm s z) (h' : stp p now ahead sm i z') (hi : i ≠ s) (ha : z = nb p now a ∧ (sm = true → ∃ t, (0 ≤ t ∧ t ≤ p) ∧ nb p now t = fit4 ahead ∧ t ≠ a ∧ a = skipT t s) ∧ (sm = false → a = s)) (hb : z' = nb p now b ∧ (sm = true → ∃ t, (0 ≤ t ∧ t ≤ p) ∧ nb p now t = fit4 ahead ∧ t ≠ b ∧ b = skipT t i) ∧ (sm = false → b = i)) : b ≠ a := by
  cases hs : sm with
  | false => have := ha.2.2 hs; have := hb.2.2 hs; omega
  | true =>
    obtain ⟨t, t1, t2, _, t4⟩ := ha.2.1 hs
    obtain ⟨t', t1', t2', _, t4'⟩ := hb.2.1 hs
    have := nb_inj hy t1 t1' t2 t2'
    subst this
    unfold skipT at t4 t4'
    split at t4 <;> split at t4' <;> omega
theorem spec_place_ev {p : Int} {e a : S25} (ss : List Int) : ∀ (now ahead : S25) (sm : Bool) (q : Int) (m : Nat), okB p now → came p now ahead sm → (sm = true ↔ q ≠ 0) → 0 ≤ q → q < sz p m → m + ss.length ≤ 4 → outR p now ahead sm ss (some (e, a)) → Ev (fun k => spec_PlaceOfBall.l0 k p q sm e.f0 e.f1 e.f2 now.f0 now.f1 now.f2 ahead.f0 ahead.f1 ahead.f2) (plc p q ss, 0) := by
  induction ss with
  | nil =>
    intro now ahead sm q m hy _ _ _ _ _ h
    obtain ⟨rfl, rfl⟩ : e = now ∧ a = ahead := by
      have : some (e, a) = some (now, ahead) := h
      simpa using this
    refine Ev.up ?_
    simp only [spec_PlaceOfBall.l0, beq_self_eq_true, Bool.not_true, Bool.or_self, Bool.false_eq_true, if_false]
    exact Ev.now _
  | cons s ss ih =>
    intro now ahead sm q m hy hc hq h0 hm hlen h
    obtain ⟨ho, hd, _⟩ := out_dist (s :: ss) now ahead sm hy hc h
    have hp := (ball_parts hy).1
    have hp2 := prime_lo hp
    have hp7 := prime_hi hp
    obtain ⟨z, hz, h2⟩ := h
    have hf : z.2.2.2 = true := by
      cases hf : z.2.2.2 with
      | false => rw [hf] at h2; simp at h2
      | true => rfl
    rw [if_pos hf] at h2
    obtain ⟨x, rfl⟩ : ∃ x, z = fit4 x := ⟨toB z, toB_fit hf⟩
    have tb : ∀ x, toB (fit4 x) = x := fun _ => rfl
    rw [tb] at h2
    obtain ⟨a1, a2⟩ := step_in hy hz hf
    rw [tb] at a1 a2
    obtain ⟨_, d2, _⟩ := out_dist ss x now true a1 a2 h2
    have e1 : ((s :: ss).length : Int) = (ss.length : Int) + 1 := by simp
    have l1 : m + 1 + ss.length ≤ 4 := by simp only [List.length_cons] at hlen; omega
    have hszb := sz_bd hp (n := m) (by omega)
    obtain ⟨sc1, sc2⟩ := slot_cnt hq hp2 hz.1
    obtain ⟨c1, c2⟩ := child_lt (j := s.toNat) hp2 h0 hm sc1
    rw [← sc2] at c1 c2
    have hszb2 := sz_bd hp (n := m + 1) (by omega)
    have hnext := ih x now true (fch p q + s) (m + 1) a1 a2 ⟨fun _ => by omega, fun _ => rfl⟩ (by omega) c2 (by omega) h2
    have hne : (!(now.f0 == e.f0) || (!(now.f1 == e.f1) || (!(now.f2 == e.f2)))) = true := by
      cases hb : (!(now.f0 == e.f0) || (!(now.f1 == e.f1) || (!(now.f2 == e.f2)))) with
      | true => rfl
      | false =>
        exfalso
        have hw : now = e := eq_test.1 (by
          simp only [Bool.or_eq_false_iff, Bool.not_eq_false'] at hb
          simp only [Bool.and_eq_true]; exact hb)
        rw [hw, ds_self ho] at hd; omega
    refine Ev.up ?_
    simp only [spec_PlaceOfBall.l0, hne, if_true]
    refine Ev.bindv (spec_child_eq hp h0 (by omega)) ?_
    obtain ⟨i, i1, i2, i3, i4⟩ := stp_idx hp2 hz
    obtain ⟨u, u1, u2⟩ := nb_dist hy ho (by omega)
    have hiu : i = u := Classical.byContradiction fun hne => by
      have := (u2 i x i1.1 i1.2 i2.symm).2 hne; omega
    have hiu2 := (u2 i x i1.1 i1.2 i2.symm).1 hiu
    have key : ∀ (d : Nat) (j : Int), j + d = s → 0 ≤ j → Ev (fun k => spec_PlaceOfBall.l1 k p q sm (fch p q) (cnt p q : Int) j e.f0 e.f1 e.f2 now.f0 now.f1 now.f2 ahead.f0 ahead.f1 ahead.f2) (plc p (fch p q + s) ss, 0) := by
      intro d
      induction d with
      | zero =>
        intro j hj hj0
        obtain rfl : j = s := by omega
        refine Ev.up ?_
        simp only [spec_PlaceOfBall.l1, if_pos (show j < ((cnt p q : Nat) : Int) by omega)]
        refine Ev.bind (stp_next hy hz) ?_
        simp only [fit4, if_true]
        refine Ev.bind (spec_dist_ev a1 ho) (Ev.bind (spec_dist_ev hy ho) ?_)
        rw [wid (n := fch p q + j) (by omega) (by omega)]
        simp only [if_pos (show dsW p x e < dsW p now e by omega)]
        exact hnext
      | succ d ihd =>
        intro j hj hj0
        refine Ev.up ?_
        simp only [spec_PlaceOfBall.l1, if_pos (show j < ((cnt p q : Nat) : Int) by omega)]
        obtain ⟨z', hz'⟩ := stp_other hz hj0 (by omega)
        refine Ev.bind (stp_next hy hz') ?_
        have go := ihd (j + 1) (by omega) (by omega)
        have cb := cnt_le hp7 q
        rw [wid (n := j + 1) (by omega) (by omega)]
        cases hf' : z'.2.2.2 with
        | false => simp only [Bool.false_eq_true, if_false]; exact go
        | true =>
          obtain ⟨x', rfl⟩ : ∃ x, z' = fit4 x := ⟨toB z', toB_fit hf'⟩
          obtain ⟨b1, _⟩ := step_in hy hz' hf'
          rw [tb] at b1
          simp only [fit4, if_true]
          refine Ev.bind (spec_dist_ev b1 ho) (Ev.bind (spec_dist_ev hy ho) ?_)
          obtain ⟨i', k1, k2, k3, k4⟩ := stp_idx hp2 hz'
          have hni : i' ≠ i := stp_ne hy hz hz' (by omega) ⟨i2, i3, i4⟩ ⟨k2, k3, k4⟩
          have := (u2 i' x' k1.1 k1.2 k2.symm).2 (by omega)
          simp only [if_neg (show ¬ dsW p x' e < dsW p now e by omega)]
          exact go
    exact key s.toNat 0 (by omega) (by omega)

def slotsF (p : Int) : Nat → Int → List Int
  | 0, _ => []
  | n + 1, i => if i ≤ 0 then [] else slotsF p n (par p i) ++ [i - fch p (par p i)]
def slots (p i : Int) : List Int := slotsF p i.toNat i
theorem slotsF_eq {p : Int} (hp : 2 ≤ p) (n : Nat) : ∀ (m : Nat) (i : Int), i.toNat ≤ n → i.toNat ≤ m → slotsF p n i = slotsF p m i := by
  induction n with
  | zero =>
    intro m i h1 h2
    cases m with
    | zero => rfl
    | succ m => unfold slotsF; rw [if_pos (by omega)]
  | succ n ih =>
    intro m i h1 h2
    cases m with
    | zero => unfold slotsF; rw [if_pos (by omega)]
    | succ m =>
      unfold slotsF
      by_cases h : i ≤ 0
      · rw [if_pos h, if_pos h]
      · have := par_lt hp (show 1 ≤ i by omega)
        rw [if_neg h, if_neg h, ih m _ (by omega) (by omega)]
theorem slots_0 (p : Int) : slots p 0 = [] := rfl
theorem slots_s {p i : Int} (hp : 2 ≤ p) (hi : 1 ≤ i) : slots p i = slots p (par p i) ++ [i - fch p (par p i)] := by
  have := par_lt hp hi
  unfold slots
  obtain ⟨n, hn⟩ : ∃ n, i.toNat = n + 1 := ⟨i.toNat - 1, by omega⟩
  rw [hn]
  conv => lhs; unfold slotsF
  rw [if_neg (by omega), slotsF_eq hp n (par p i).toNat _ (by omega) (Nat.le_refl _)]
theorem slot_in {p i : Int} (hp : 2 ≤ p) (hi : 1 ≤ i) : 0 ≤ i - fch p (par p i) ∧ (if par p i = 0 then i - fch p (par p i) ≤ p else i - fch p (par p i) < p) := by
  unfold par fch
  by_cases h : i ≤ p + 1
  · rw [if_pos h, if_pos rfl]; simp only [if_true]; omega
  · rw [if_neg h]
    have h2 := Int.ediv_nonneg (show 0 ≤ i - p - 2 by omega) (show 0 ≤ p by omega)
    have h3 := Int.emod_add_mul_ediv (i - p - 2) p
    have h4 := Int.emod_nonneg (i - p - 2) (show p ≠ 0 by omega)
    have h5 := Int.emod_lt_of_pos (i - p - 2) (show 0 < p by omega)
    rw [if_neg (by omega), if_neg (by omega), show (i - p - 2) / p + 1 - 1 = (i - p - 2) / p by omega, Int.mul_comm ((i - p - 2) / p) p]
    omega
theorem plc_app (p : Int) (s : Int) : ∀ (ss : List Int) (q : Int), plc p q (ss ++ [s]) = fch p (plc p q ss) + s := by
  intro ss
  induction ss with
  | nil => intro q; rfl
  | cons t ss ih => intro q; exact ih _
theorem plc_slots {p : Int} (hp : 2 ≤ p) (n : Nat) : ∀ i : Int, 0 ≤ i → i.toNat ≤ n → plc p 0 (slots p i) = i := by
  induction n with
  | zero => intro i h0 h1; obtain rfl : i = 0 := by omega
            rfl
  | succ n ih =>
    intro i h0 h1
    by_cases h : i = 0
    · subst h; rfl
    · have := par_lt hp (show 1 ≤ i by omega)
      rw [slots_s hp (by omega), plc_app, ih _ (by omega) (by omega)]; omega
theorem slots_nil {p i : Int} (hp : 2 ≤ p) (h0 : 0 ≤ i) : slots p i = [] ↔ i = 0 := by
  constructor
  · intro h
    refine Classical.byContradiction fun hi => ?_
    rw [slots_s hp (by omega)] at h; simp at h
  · rintro rfl; rfl
def okL (p : Int) (ss : List Int) : Prop := (∀ s ∈ ss.tail, 0 ≤ s ∧ s < p) ∧ ∀ s, ss.head? = some s → 0 ≤ s ∧ s ≤ p
theorem slots_ok {p : Int} (hp : 2 ≤ p) (n : Nat) : ∀ i : Int, 0 ≤ i → i.toNat ≤ n → okL p (slots p i) := by
  induction n with
  | zero => intro i h0 h1; obtain rfl : i = 0 := by omega
            exact ⟨(fun s h => by cases h), (fun s h => by cases h)⟩
  | succ n ih =>
    intro i h0 h1
    by_cases h : i = 0
    · subst h; exact ⟨(fun s h => by cases h), (fun s h => by cases h)⟩
    · have hl := par_lt hp (show 1 ≤ i by omega)
      obtain ⟨a, b⟩ := ih _ hl.1 (by omega)
      obtain ⟨c1, c2⟩ := slot_in hp (show 1 ≤ i by omega)
      rw [slots_s hp (by omega)]
      have hn := slots_nil hp hl.1
      generalize slots p (par p i) = ss at a b hn
      cases ss with
      | nil =>
        rw [if_pos (hn.1 rfl)] at c2
        refine ⟨(fun s h => by cases h), fun s h => ?_⟩
        simp only [List.nil_append, List.head?_cons, Option.some.injEq] at h
        omega
      | cons q qs =>
        rw [if_neg (fun e => by cases hn.2 e)] at c2
        refine ⟨fun s h => ?_, fun s h => b s h⟩
        simp only [List.cons_append, List.tail_cons, List.mem_append, List.mem_singleton] at h
        rcases h with h | h
        · exact a s h
        · omega
theorem out_snoc {p s : Int} (ss : List Int) : ∀ (now ahead : S25) (sm : Bool) (n' a' : S25) (z : Int × Int × Int × Bool), outR p now ahead sm ss (some (n', a')) → stp p n' a' (sm || !ss.isEmpty) s z → outR p now ahead sm (ss ++ [s]) (if z.2.2.2 = true then some (toB z, n') else none) := by
  induction ss with
  | nil =>
    intro now ahead sm n' a' z h hz
    obtain ⟨rfl, rfl⟩ : n' = now ∧ a' = ahead := by
      have : some (n', a') = some (now, ahead) := h
      simpa using this
    rw [show (sm || !([] : List Int).isEmpty) = sm by simp] at hz
    refine ⟨z, hz, ?_⟩
    split
    · exact rfl
    · rfl
  | cons q qs ih =>
    intro now ahead sm n' a' z h hz
    obtain ⟨y, hy, h2⟩ := h
    refine ⟨y, hy, ?_⟩
    cases hf : y.2.2.2 with
    | false => rw [hf] at h2; simp at h2
    | true =>
      rw [if_pos hf] at h2
      rw [if_pos rfl]
      exact ih _ _ _ _ _ _ h2 (by simpa using hz)
theorem out_none {p s : Int} (ss : List Int) : ∀ (now ahead : S25) (sm : Bool), outR p now ahead sm ss none → outR p now ahead sm (ss ++ [s]) none := by
  induction ss with
  | nil => intro now ahead sm h; cases (show (none : Option (S25 × S25)) = some _ from h)
  | cons q qs ih =>
    intro now ahead sm h
    obtain ⟨y, hy, h2⟩ := h
    refine ⟨y, hy, ?_⟩
    cases hf : y.2.2.2 with
    | false => simp
    | true => rw [if_pos hf] at h2; rw [if_pos rfl]; exact ih _ _ _ h2
theorem out_came {p : Int} {e a : S25} (ss : List Int) : ∀ (now ahead : S25) (sm : Bool), okB p now → came p now ahead sm → outR p now ahead sm ss (some (e, a)) → okB p e ∧ came p e a (sm || !ss.isEmpty) := by
  induction ss with
  | nil =>
    intro now ahead sm hy hc h
    obtain ⟨rfl, rfl⟩ : e = now ∧ a = ahead := by
      have : some (e, a) = some (now, ahead) := h
      simpa using this
    exact ⟨hy, by simpa using hc⟩
  | cons s ss ih =>
    intro now ahead sm hy hc h
    obtain ⟨z, hz, h2⟩ := h
    cases hf : z.2.2.2 with
    | false => rw [hf] at h2; simp at h2
    | true =>
      rw [if_pos hf] at h2
      obtain ⟨a1, a2⟩ := step_in hy hz hf
      obtain ⟨b1, b2⟩ := ih (toB z) now true a1 a2 h2
      exact ⟨b1, by simpa using b2⟩
def bopR (o : Option (S25 × S25)) (r : Int × Int × Int × Int × Int × Int × Bool) : Prop := match o with
  | some (e, a) => r = (e.f0, e.f1, e.f2, a.f0, a.f1, a.f2, true)
  | none => r.2.2.2.2.2.2 = false
theorem impl_bop_ev {p : Int} {b : S25} (hb : okB p b) (n : Nat) : ∀ i : Int, 0 ≤ i → i ≤ 1000 → i.toNat ≤ n → ∃ o r, outR p b b false (slots p i) o ∧ bopR o r ∧ Ev (fun k => impl_ballOfPlace.f k p b.f0 b.f1 b.f2 i) r := by
  have hp := (ball_parts hb).1
  have hp2 := prime_lo hp
  have hp7 := prime_hi hp
  have base : ∃ o r, outR p b b false (slots p 0) o ∧ bopR o r ∧ Ev (fun k => impl_ballOfPlace.f k p b.f0 b.f1 b.f2 0) r :=
    ⟨some (b, b), _, rfl, rfl, Ev.up (by simp only [impl_ballOfPlace.f, if_true]; exact Ev.now _)⟩
  induction n with
  | zero => intro i h0 h1 h2; obtain rfl : i = 0 := by omega
            exact base
  | succ n ih =>
    intro i h0 h1 h2
    by_cases hi : i = 0
    · subst hi; exact base
    have hl := par_lt hp2 (show 1 ≤ i by omega)
    obtain ⟨o, r, o1, o2, o3⟩ := ih (par p i) hl.1 (by omega) (by omega)
    obtain ⟨f1, f2, f3⟩ := impl_first_eq hp hl.1 (show par p i ≤ 1000000 by omega)
    obtain ⟨s1, s2⟩ := slot_in hp2 (show 1 ≤ i by omega)
    have hn := slots_nil hp2 hl.1
    rw [slots_s hp2 (show 1 ≤ i by omega)]
    cases o with
    | none =>
      have o2' : r.2.2.2.2.2.2 = false := o2
      refine ⟨none, (0, 0, 0, 0, 0, 0, false), out_none _ _ _ _ o1, rfl, Ev.up ?_⟩
      simp only [impl_ballOfPlace.f, if_neg hi]
      refine Ev.bindv (impl_parent_eq hp h0 (by omega)) (Ev.bind o3 ?_)
      simp only [o2', Bool.false_eq_true, if_false]
      exact Ev.now _
    | some ea =>
      obtain ⟨e, a⟩ := ea
      obtain rfl : r = (e.f0, e.f1, e.f2, a.f0, a.f1, a.f2, true) := o2
      obtain ⟨c1, c2⟩ := out_came _ _ _ _ hb (fun h => by cases h) o1
      have hsm : (false || !(slots p (par p i)).isEmpty) = decide (par p i > 0) := by
        by_cases h : par p i = 0
        · rw [hn.2 h, h]; rfl
        · have : slots p (par p i) ≠ [] := fun e => h (hn.1 e)
          rw [decide_eq_true (by omega)]
          cases hs : slots p (par p i) with
          | nil => exact absurd hs this
          | cons => rfl
      have hs : 0 ≤ i - fch p (par p i) ∧ (if (false || !(slots p (par p i)).isEmpty) = true then i - fch p (par p i) < p else i - fch p (par p i) ≤ p) := by
        rw [hsm]
        refine ⟨s1, ?_⟩
        by_cases h : par p i = 0
        · rw [if_pos h] at s2; rw [decide_eq_false (show ¬ par p i > 0 by omega)]; simpa using s2
        · rw [if_neg h] at s2; rw [decide_eq_true (show par p i > 0 by omega)]; simpa using s2
      have fin (z : Int × Int × Int × Bool) (hz : stp p e a (false || !(slots p (par p i)).isEmpty) (i - fch p (par p i)) z) : outR p b b false (slots p (par p i) ++ [i - fch p (par p i)]) (if z.2.2.2 = true then some (toB z, e) else none) ∧ bopR (if z.2.2.2 = true then some (toB z, e) else none) (z.1, z.2.1, z.2.2.1, e.f0, e.f1, e.f2, z.2.2.2) := by
        refine ⟨out_snoc _ _ _ _ _ _ _ o1 hz, ?_⟩
        cases hf : z.2.2.2 with
        | true => simp only [if_true]; rfl
        | false => simp only [Bool.false_eq_true, if_false]; rfl
      have w1 : wrap64 (i - fch p (par p i)) = i - fch p (par p i) := wid (by omega) (by split at s2 <;> omega)
      have sle : i - fch p (par p i) ≤ p := by split at s2 <;> omega
      by_cases hpar : par p i > 0
      · rw [hsm, decide_eq_true hpar] at c2 hs fin
        obtain ⟨t, t1, t2⟩ := c2 rfl
        obtain ⟨g1, g2⟩ := fin (nb p e (skipT t (i - fch p (par p i)))) ⟨hs, t, fun _ => ⟨t1, t2⟩, by rw [if_pos rfl]⟩
        refine ⟨_, _, g1, g2, Ev.up ?_⟩
        simp only [impl_ballOfPlace.f, if_neg hi]
        refine Ev.bindv (impl_parent_eq hp h0 (by omega)) (Ev.bind o3 ?_)
        simp only [if_true]
        refine Ev.bindv f1 ?_
        simp only [if_pos hpar]
        refine Ev.bind (toward_ev c1 t1 t2) ?_
        rw [w1]
        by_cases hge : i - fch p (par p i) ≥ t
        · have es : skipT t (i - fch p (par p i)) = i - fch p (par p i) + 1 := by unfold skipT; rw [if_neg (by omega)]
          simp only [if_pos hge]
          rw [wid (n := i - fch p (par p i) + 1) (by omega) (by omega), es]
          exact Ev.bind (impl_neighbour_ev (p := p) (L := e.f0) (T := e.f1) (D := e.f2) _ c1 (by omega)) (Ev.now _)
        · have es : skipT t (i - fch p (par p i)) = i - fch p (par p i) := by unfold skipT; rw [if_pos (by omega)]
          simp only [if_neg hge]
          rw [es]
          exact Ev.bind (impl_neighbour_ev (p := p) (L := e.f0) (T := e.f1) (D := e.f2) _ c1 (by omega)) (Ev.now _)
      · rw [hsm, decide_eq_false hpar] at hs fin
        obtain ⟨g1, g2⟩ := fin (nb p e (i - fch p (par p i))) ⟨hs, 0, (fun h => by cases h), by simp⟩
        refine ⟨_, _, g1, g2, Ev.up ?_⟩
        simp only [impl_ballOfPlace.f, if_neg hi]
        refine Ev.bindv (impl_parent_eq hp h0 (by omega)) (Ev.bind o3 ?_)
        simp only [if_true]
        refine Ev.bindv f1 ?_
        simp only [if_neg hpar]
        rw [w1]
        exact Ev.bind (impl_neighbour_ev (p := p) (L := e.f0) (T := e.f1) (D := e.f2) _ c1 (by omega)) (Ev.now _)
def lbR (o : Option (S25 × S25)) : Int × Int × Int × Bool := match o with
  | some (e, _) => (e.f0, e.f1, e.f2, true)
  | none => (0, 0, 0, false)
theorem spec_lb_l1 {p : Int} (xs : List Int) (hx : xs.length ≤ 2000) (m : Nat) : ∀ (now ahead : S25) (sm : Bool) (o : Option (S25 × S25)), m ≤ xs.length → okB p now → outR p now ahead sm ((xs.take m).reverse) o → Ev (fun k => spec_l07Ball.l1 k p xs sm ((m : Int) - 1) now.f0 now.f1 now.f2 ahead.f0 ahead.f1 ahead.f2) (lbR o) := by
  induction m with
  | zero =>
    intro now ahead sm o _ _ h
    obtain rfl : o = some (now, ahead) := h
    refine Ev.up ?_
    simp only [spec_l07Ball.l1, if_neg (show ¬ ((0 : Nat) : Int) - 1 ≥ 0 by omega)]
    exact Ev.now _
  | succ m ih =>
    intro now ahead sm o hm hy h
    have e1 : (xs.take (m + 1)).reverse = xs[m] :: (xs.take m).reverse := by
      rw [List.take_succ_eq_append_getElem (by omega), List.reverse_append]; rfl
    rw [e1] at h
    obtain ⟨z, hz, h2⟩ := h
    refine Ev.up ?_
    rw [show ((m + 1 : Nat) : Int) - 1 = (m : Int) by omega]
    simp only [spec_l07Ball.l1, if_pos (show (m : Int) ≥ 0 by omega), if_pos (show (0 : Int) ≤ (m : Int) by omega), if_pos (show (m : Int) < (xs.length : Int) by omega), rd_nat xs m (by omega)]
    refine Ev.bind (stp_next hy hz) ?_
    rw [wid (n := (m : Int) - 1) (by omega) (by omega)]
    cases hf : z.2.2.2 with
    | false =>
      rw [hf] at h2; simp only [Bool.false_eq_true, if_false] at h2
      subst h2
      simp only [Bool.false_eq_true, if_false]; exact Ev.now _
    | true =>
      rw [if_pos hf] at h2
      simp only [if_true]
      obtain ⟨a1, _⟩ := step_in hy hz hf
      exact ih (toB z) now true o (by omega) a1 h2
theorem spec_lb_l0 {p : Int} {b : S25} (hp : primeB p = true) (n : Nat) : ∀ (i : Int) (xs : List Int) (r : Int × Int × Int × Bool), 0 ≤ i → i ≤ 1000 → i.toNat ≤ n → xs.length + i.toNat ≤ 1000 → Ev (fun k => spec_l07Ball.l1 k p (xs ++ (slots p i).reverse) false (((xs ++ (slots p i).reverse).length : Int) - 1) b.f0 b.f1 b.f2 0 0 0) r → Ev (fun k => spec_l07Ball.l0 k p xs i b.f0 b.f1 b.f2) r := by
  have hp2 := prime_lo hp
  have base : ∀ (xs : List Int) (r : Int × Int × Int × Bool), xs.length ≤ 1000 → Ev (fun k => spec_l07Ball.l1 k p (xs ++ (slots p 0).reverse) false (((xs ++ (slots p 0).reverse).length : Int) - 1) b.f0 b.f1 b.f2 0 0 0) r → Ev (fun k => spec_l07Ball.l0 k p xs 0 b.f0 b.f1 b.f2) r := fun xs r hx h => by
    rw [slots_0, List.reverse_nil, List.append_nil] at h
    refine Ev.up ?_
    simp only [spec_l07Ball.l0, if_neg (show ¬ (0 : Int) > 0 by omega)]
    rw [wid (n := (xs.length : Int) - 1) (by omega) (by omega)]
    exact h
  induction n with
  | zero => intro i xs r h0 h1 h2 h3 h; obtain rfl : i = 0 := by omega
            exact base xs r (by omega) h
  | succ n ih =>
    intro i xs r h0 h1 h2 h3 h
    by_cases hi : i = 0
    · subst hi; exact base xs r (by omega) h
    have hl := par_lt hp2 (show 1 ≤ i by omega)
    have hc := spec_child_eq hp hl.1 (show par p i ≤ 1000000 by omega)
    obtain ⟨s1, s2⟩ := slot_in hp2 (show 1 ≤ i by omega)
    have hp7 := prime_hi hp
    refine Ev.up ?_
    simp only [spec_l07Ball.l0, if_pos (show i > 0 by omega)]
    refine Ev.bindv (spec_parent_eq hp h0 (by omega)) (Ev.bindv hc ?_)
    simp only [if_pos (show xs.length < 17592186044416 by omega)]
    refine Ev.bindv (spec_parent_eq hp h0 (by omega)) ?_
    rw [wid (n := i - fch p (par p i)) (by omega) (by split at s2 <;> omega)]
    refine ih (par p i) _ r hl.1 (by omega) (by omega) (by simp; omega) ?_
    rw [slots_s hp2 (show 1 ≤ i by omega), List.reverse_append, List.reverse_singleton, ← List.append_assoc] at h
    exact h
theorem spec_lb_ev {p i : Int} {b : S25} {o : Option (S25 × S25)} (hb : okB p b) (h0 : 0 ≤ i) (h1 : i ≤ 1000) (hl : (slots p i).length ≤ 1000) (h : outR p b ⟨0, 0, 0⟩ false (slots p i) o) : Ev (fun k => spec_l07Ball.f k p b.f0 b.f1 b.f2 i) (lbR o) := by
  have hp := (ball_parts hb).1
  unfold spec_l07Ball.f
  refine spec_lb_l0 hp i.toNat i [] _ h0 h1 (Nat.le_refl _) (by simp; omega) ?_
  rw [List.nil_append]
  have := spec_lb_l1 (p := p) (slots p i).reverse (by simp; omega) (slots p i).reverse.length b ⟨0, 0, 0⟩ false o (Nat.le_refl _) hb (by
    rw [List.take_length, List.reverse_reverse]; exact h)
  exact this
theorem slots_len {p : Int} (hp : 2 ≤ p) (n : Nat) : ∀ i : Int, 0 ≤ i → i.toNat ≤ n → (slots p i).length ≤ i.toNat := by
  induction n with
  | zero => intro i h0 h1; obtain rfl : i = 0 := by omega
            exact Nat.le_refl _
  | succ n ih =>
    intro i h0 h1
    by_cases hi : i = 0
    · subst hi; exact Nat.le_refl _
    have hl := par_lt hp (show 1 ≤ i by omega)
    have := ih (par p i) hl.1 (by omega)
    rw [slots_s hp (by omega), List.length_append, List.length_singleton]; omega
theorem out_first {p : Int} {ss : List Int} {now a1 a2 : S25} {o : Option (S25 × S25)} (h : outR p now a1 false ss o) : ∃ o', outR p now a2 false ss o' ∧ o.map Prod.fst = o'.map Prod.fst := by
  cases ss with
  | nil =>
    obtain rfl : o = some (now, a1) := h
    exact ⟨_, rfl, rfl⟩
  | cons s ss =>
    obtain ⟨z, ⟨h1, t, _, h3⟩, h2⟩ := h
    exact ⟨o, ⟨z, ⟨h1, t, (fun h => by cases h), h3⟩, h2⟩, rfl⟩
theorem depth_ev {p : Int} (hp : primeB p = true) (n : Nat) : ∀ (i c : Int), 0 ≤ i → i ≤ 1000 → i.toNat ≤ n → 0 ≤ c → c + i ≤ 100000 → Ev (fun k => impl_depthOf.l0 k p i c) (c + (slots p i).length) ∧ Ev (fun k => spec_l07Depth.l0 k p i c) (c + (slots p i).length) := by
  have hp2 := prime_lo hp
  have base : ∀ c : Int, Ev (fun k => impl_depthOf.l0 k p 0 c) (c + (slots p 0).length) ∧ Ev (fun k => spec_l07Depth.l0 k p 0 c) (c + (slots p 0).length) := fun c => by
    rw [slots_0, show c + (([] : List Int).length : Int) = c by simp]
    exact ⟨Ev.up (by simp only [impl_depthOf.l0, if_neg (show ¬ (0 : Int) > 0 by omega)]; exact Ev.now _), Ev.up (by simp only [spec_l07Depth.l0, if_neg (show ¬ (0 : Int) > 0 by omega)]; exact Ev.now _)⟩
  induction n with
  | zero => intro i c h0 h1 h2 _ _; obtain rfl : i = 0 := by omega
            exact base c
  | succ n ih =>
    intro i c h0 h1 h2 hc0 hc
    by_cases hi : i = 0
    · subst hi; exact base c
    have hl := par_lt hp2 (show 1 ≤ i by omega)
    obtain ⟨a, b⟩ := ih (par p i) (c + 1) hl.1 (by omega) (by omega) (by omega) (by omega)
    have e : c + 1 + ((slots p (par p i)).length : Int) = c + ((slots p i).length : Int) := by
      rw [slots_s hp2 (show 1 ≤ i by omega), List.length_append, List.length_singleton]; omega
    rw [e] at a b
    constructor
    · refine Ev.up ?_
      simp only [impl_depthOf.l0, if_pos (show i > 0 by omega)]
      refine Ev.bindv (impl_parent_eq hp h0 (by omega)) ?_
      rw [wid (n := c + 1) (by omega) (by omega)]; exact a
    · refine Ev.up ?_
      simp only [spec_l07Depth.l0, if_pos (show i > 0 by omega)]
      refine Ev.bindv (spec_parent_eq hp h0 (by omega)) ?_
      rw [wid (n := c + 1) (by omega) (by omega)]; exact b

theorem impl_areBalls_ev (p : Int) (l : List S25) (hl : l.length ≤ 4611686018427387904) : Ev (fun k => impl_areBalls.f k p l) (primeB p && l.all (fun b => ballB p b.f0 b.f1 b.f2)) := by
  unfold impl_areBalls.f
  have hr : ∀ (i : Nat) (k : Nat), i < l.length → impl_areBalls.l0 (k + 1) p l l.length i = (impl_IsBall.f k p (l.getD i z25).f0 (l.getD i z25).f1 (l.getD i z25).f2).bind fun t => if t = true then impl_areBalls.l0 k p l l.length ((i : Int) + 1) else some false := by
    intro i k hi
    simp only [impl_areBalls.l0]
    rw [if_pos (by omega), if_pos (by omega), if_pos (by omega), wid (by omega) (by omega)]; rfl
  have := all_ev' (fun k i => impl_areBalls.l0 k p l l.length i) l.length (fun i => ballB p (l.getD i z25).f0 (l.getD i z25).f1 (l.getD i z25).f2) (primeB p) false (by
    intro i r hi hb hr'
    refine Ev.step (hr i · hi) (Ev.bind (impl_IsBall_ev _ _ _ _) ?_)
    rw [hb]; simpa using hr') (by
    intro i hi hb
    refine Ev.step (hr i · hi) (Ev.bind (impl_IsBall_ev _ _ _ _) ?_)
    rw [hb]; simp; exact Ev.now _) (by
    refine Ev.step (f := fun _ => (impl_isPrime.f p).bind fun t => some t) (fun k => by simp only [impl_areBalls.l0]; rw [if_neg (by omega)]) ?_
    exact Ev.bindv (impl_isPrime_eq p) (Ev.now _))
  rw [all_range_getD l z25 (fun b => ballB p b.f0 b.f1 b.f2)] at this
  rw [show (primeB p && l.all (fun b => ballB p b.f0 b.f1 b.f2)) = (if l.all (fun b => ballB p b.f0 b.f1 b.f2) = true then primeB p else false) from by cases l.all (fun b => ballB p b.f0 b.f1 b.f2) <;> simp]
  exact this

theorem way_facts {p : Int} {b c : S25} (hb : okB p b) (hc : okB p c) : ∃ (W : Nat → S25) (n : Nat), (n : Int) = dsW p b c ∧ W 0 = b ∧ W n = c ∧ (∀ i : Nat, i ≤ n → okB p (W i) ∧ dsW p (W i) c = (n : Int) - i) ∧ (∀ i, i < n → ∃ t, (0 ≤ t ∧ t ≤ p) ∧ nb p (W i) t = fit4 (W (i + 1))) ∧
    Ev (fun k => impl_geodesic.f k p b.f0 b.f1 b.f2 c.f0 c.f1 c.f2) ((List.range (n + 1)).map W) ∧ (∀ N i, i < N → rd_T25 ((List.range N).map W) (i : Int) = W i) := by
  obtain ⟨hp, hl, _⟩ := ball_parts hb
  have hp2 := prime_lo hp
  have hlc := (ball_parts hc).2.1
  obtain ⟨j0, j1, j2⟩ := jn_bd hb hc
  have jd := jn_dvd hb hc
  have jno : jnB p b c + 1 ≤ b.f0 → jnB p b c + 1 ≤ c.f0 → ¬ p ^ (jnB p b c + 1 + 6).toNat ∣ mkW p b - mkW p c := fun x y h => by
    have := (jn_iff hb hc (jnB p b c + 1) (by omega)).2 ⟨x, y, h⟩; omega
  have ed : dsW p b c = b.f0 + c.f0 - 2 * jnB p b c := rfl
  have hs : ofM p (jnB p b c) (markOf p b.f1 b.f2) = ofM p (jnB p b c) (markOf p c.f1 c.f2) := jnW_same hb hc
  have hj : Ev (fun k => impl_joinLevel.f k p b.f0 b.f1 b.f2 c.f0 c.f1 c.f2) (jnB p b c) := impl_joinLevel_ev hb hc
  generalize jnB p b c = J at j0 j1 j2 jd jno ed hs hj
  obtain ⟨na, hna⟩ : ∃ na : Nat, b.f0 = J + na := ⟨(b.f0 - J).toNat, by omega⟩
  obtain ⟨nc, hnc⟩ : ∃ nc : Nat, c.f0 = J + nc := ⟨(c.f0 - J).toNat, by omega⟩
  have lo (i : Nat) (hi : i ≤ na) : wayAt p (mkW p b) (mkW p c) J na i = upB p (mkW p b) (b.f0 - i) := by
    unfold wayAt
    by_cases h : i < na
    · rw [if_pos h, hna]
    · rw [if_neg h, show J + ((i - na : Nat) : Int) = J by omega, show b.f0 - (i : Int) = J by omega]
      have hs' : ofM p J (mkW p b) = ofM p J (mkW p c) := hs
      unfold upB
      rw [hs']
  have hi' (i : Nat) (hi : na ≤ i) : wayAt p (mkW p b) (mkW p c) J na i = upB p (mkW p c) (J + ((i - na : Nat) : Int)) := by
    unfold wayAt; rw [if_neg (by omega)]
  refine ⟨wayAt p (mkW p b) (mkW p c) J na, na + nc, by omega, ?_, ?_, ?_, ?_, ?_, fun N i hN => wayAt_rd _ _ _ _ _ _ _ hN⟩
  · rw [lo 0 (by omega), show b.f0 - ((0 : Nat) : Int) = b.f0 by omega]; exact (self_up hb).symm
  · rw [hi' (na + nc) (by omega), show J + ((na + nc - na : Nat) : Int) = c.f0 by omega]; exact (self_up hc).symm
  · intro i hi
    by_cases h : i ≤ na
    · rw [lo i h]
      refine ⟨upB_okB hp (by omega), ?_⟩
      rw [jn_up hp hc (by omega) J j0 (by omega) j2 jd (fun x y => jno (by omega) y)]; omega
    · rw [hi' i (by omega)]
      refine ⟨upB_okB hp (by omega), ?_⟩
      rw [jn_up hp hc (by omega) (J + ((i - na : Nat) : Int)) (by omega) (Int.le_refl _) (by omega) (by rw [Int.sub_self]; exact Int.dvd_zero _) (fun x => by omega)]; omega
  · intro i hi
    by_cases h : i < na
    · rw [lo i (by omega), lo (i + 1) (by omega)]
      refine ⟨0, by omega, ?_⟩
      rw [nb_par (upB_okB hp (by omega)) (by rw [upB_f0]; omega), upB_f0, upB_mk hp, show b.f0 - ((i + 1 : Nat) : Int) = b.f0 - i - 1 by omega]
      congr 1
      rw [upB_eq hp2]
      exact Int.emod_emod_of_dvd _ (dvd_pow' (by omega))
    · rw [hi' i (by omega), hi' (i + 1) (by omega), show J + ((i + 1 - na : Nat) : Int) = J + ((i - na : Nat) : Int) + 1 by omega]
      obtain ⟨d, d1, d2⟩ := chM_dig (p := p) (X := mkW p c) (n := J + ((i - na : Nat) : Int)) hp (by omega)
      refine ⟨(d : Int) + 1, by omega, ?_⟩
      unfold nb chW
      rw [if_neg (by omega), if_neg (by rw [upB_f0]; omega), show (d : Int) + 1 - 1 = d by omega]
      have d3 : chM p (upB p (mkW p c) (J + ((i - na : Nat) : Int))).f0 (upB p (mkW p c) (J + ((i - na : Nat) : Int))).f1 (upB p (mkW p c) (J + ((i - na : Nat) : Int))).f2 d = ofM p (J + ((i - na : Nat) : Int) + 1) (mkW p c) := d2
      rw [d3]; rfl
  · unfold impl_geodesic.f
    refine Ev.bind hj ?_
    have := geo_l0 hb hc J na nc j0 hna hnc hs (na + 1) 0 (by omega)
    rw [show na + nc + 1 = na + 1 + nc by omega]
    rw [show b.f0 - ((0 : Nat) : Int) = b.f0 by omega] at this
    exact this
theorem path_ex {p : Int} {c : S25} {W : Nat → S25} {n : Nat} (hp2 : 2 ≤ p) (hc : W n = c) (h1 : ∀ i : Nat, i ≤ n → okB p (W i) ∧ dsW p (W i) c = (n : Int) - i) (h2 : ∀ i, i < n → ∃ t, (0 ≤ t ∧ t ≤ p) ∧ nb p (W i) t = fit4 (W (i + 1))) (d : Nat) : ∀ (i : Nat) (ahead : S25) (sm : Bool), i + d = n → came p (W i) ahead sm → (sm = true → dsW p ahead c = (n : Int) - i + 1) → ∃ ss a, ss.length = d ∧ outR p (W i) ahead sm ss (some (c, a)) := by
  induction d with
  | zero =>
    intro i ahead sm hi _ _
    obtain rfl : i = n := by omega
    exact ⟨[], ahead, rfl, by rw [hc]; exact rfl⟩
  | succ d ih =>
    intro i ahead sm hi hcm hd
    obtain ⟨t, t1, t2⟩ := h2 i (by omega)
    obtain ⟨a1, a2⟩ := h1 i (by omega)
    obtain ⟨b1, b2⟩ := h1 (i + 1) (by omega)
    obtain ⟨ss, a, l, ho⟩ := ih (i + 1) (W i) true (by omega) (fun _ => nb_back a1 t2) (fun _ => by rw [a2]; omega)
    have mk (s : Int) (hs : stp p (W i) ahead sm s (fit4 (W (i + 1)))) : ∃ ss a, ss.length = d + 1 ∧ outR p (W i) ahead sm ss (some (c, a)) := by
      refine ⟨s :: ss, a, by simp [l], fit4 (W (i + 1)), hs, ?_⟩
      rw [if_pos (show (fit4 (W (i + 1))).2.2.2 = true from rfl)]
      exact ho
    cases sm with
    | false => exact mk t ⟨by simpa using t1, 0, (fun h => by cases h), by simpa using t2.symm⟩
    | true =>
      obtain ⟨u, u1, u2⟩ := hcm rfl
      have hne : t ≠ u := fun e => by
        rw [e, u2] at t2
        have := fit_inj t2
        have := hd rfl
        rw [fit_inj t2, b2] at this; omega
      refine mk (if t < u then t else t - 1) ⟨by simp only [if_true]; split <;> omega, u, fun _ => ⟨u1, u2⟩, ?_⟩
      have : skipT u (if t < u then t else t - 1) = t := by 
        unfold skipT
        by_cases htu : t < u
        · rw [if_pos htu, if_pos htu]
        · rw [if_neg htu, if_neg (by omega)]; omega
      rw [if_pos rfl, this]; exact t2.symm
theorem skip_cases {t v s : Int} (h : t = skipT v s) : (t > v → t = s + 1) ∧ (¬ t > v → t ≠ v → t = s) := by
  unfold skipT at h; split at h <;> constructor <;> intros <;> omega
theorem pl_bd {p q s : Int} {m : Nat} (hp : primeB p = true) (h0 : 0 ≤ q) (hm : q < sz p m) (hm4 : m + 1 ≤ 4) (h1 : s.toNat < cnt p q) (h2 : s = (s.toNat : Int)) : (1 ≤ fch p q + s ∧ fch p q + s < sz p (m + 1)) ∧ wrap64 (fch p q + s) = fch p q + s ∧ q ≤ 1000000 := by
  obtain ⟨c1, c2⟩ := child_lt (j := s.toNat) (prime_lo hp) h0 hm h1
  rw [← h2] at c1 c2
  have b1 := sz_bd hp (n := m) (by omega)
  have b2 := sz_bd hp (n := m + 1) (by omega)
  exact ⟨⟨c1, c2⟩, wid (by omega) (by omega), by omega⟩
theorem j_facts {j n : Nat} (hn4 : n ≤ 4) (h : j < n) : ((j : Int) + 1 < (n : Int) + 1 ∧ (j : Int) < (n : Int) + 1 ∧ (0 : Int) ≤ (j : Int) ∧ (0 : Int) ≤ (j : Int) + 1) ∧ (wrap64 ((j : Int) + 1 - 1) = (j : Int) ∧ wrap64 ((j : Int) + 1 + 1) = (j : Int) + 1 + 1) ∧ (j = 0 → ¬ (j : Int) + 1 > 1) ∧ (0 < j → (j : Int) + 1 > 1 ∧ wrap64 ((j : Int) + 1 - 2) = ((j - 1 : Nat) : Int) ∧ (0 : Int) ≤ ((j - 1 : Nat) : Int) ∧ ((j - 1 : Nat) : Int) < (n : Int) + 1) := by
  refine ⟨by omega, ⟨by rw [wid (by omega) (by omega)]; omega, wid (by omega) (by omega)⟩, by omega, fun h => ⟨by omega, by rw [wid (by omega) (by omega)]; omega, by omega, by omega⟩⟩
theorem t_wrap {p t : Int} (hp : primeB p = true) (h : 0 ≤ t ∧ t ≤ p) : wrap64 (t - 1) = t - 1 := by
  have := prime_hi hp
  exact wid (by omega) (by omega)
theorem impl_place_ev {p : Int} {c a : S25} {W : Nat → S25} {n : Nat} (hn4 : n ≤ 4) (hc : okB p c) (h1 : ∀ i : Nat, i ≤ n → okB p (W i) ∧ dsW p (W i) c = (n : Int) - i) (h2 : ∀ i, i < n → ∃ t, (0 ≤ t ∧ t ≤ p) ∧ nb p (W i) t = fit4 (W (i + 1))) (hrd : ∀ N i, i < N → rd_T25 ((List.range N).map W) (i : Int) = W i) (ss : List Int) : ∀ (j : Nat) (now ahead : S25) (sm : Bool) (q : Int) (m : Nat), now = W j → (sm = true ↔ 0 < j) → (sm = true → ahead = W (j - 1)) → (sm = true ↔ q ≠ 0) → came p now ahead sm → j + ss.length = n → 0 ≤ q → q < sz p m → m + ss.length ≤ 4 → outR p now ahead sm ss (some (c, a)) → Ev (fun k => impl_PlaceOfBall.l0 k p ((List.range (n + 1)).map W) q ((j : Int) + 1)) (plc p q ss, 0) := by
  have hp := (ball_parts hc).1
  have hp2 := prime_lo hp
  have hp7 := prime_hi hp
  have hlen : (((List.range (n + 1)).map W).length : Int) = n + 1 := by simp
  induction ss with
  | nil =>
    intro j now ahead sm q m hj _ _ _ _ hl _ _ _ _
    refine Ev.up ?_
    simp only [List.length_nil] at hl
    simp only [impl_PlaceOfBall.l0, hlen, if_neg (show ¬ (j : Int) + 1 < (n : Int) + 1 by omega)]
    exact Ev.now _
  | cons s ss ih =>
    intro j now ahead sm q m hj hsj hah hq hcm hl h0 hm h4 h
    have hl' : j + (ss.length + 1) = n := by simpa using hl
    obtain ⟨hy, hd⟩ := h1 j (by omega)
    rw [← hj] at hy hd
    obtain ⟨z, hz, h3⟩ := h
    have hf : z.2.2.2 = true := by
      cases hf : z.2.2.2 with
      | false => rw [hf] at h3; simp at h3
      | true => rfl
    rw [if_pos hf] at h3
    obtain ⟨x, rfl⟩ : ∃ x, z = fit4 x := ⟨toB z, toB_fit hf⟩
    have tb : ∀ x, toB (fit4 x) = x := fun _ => rfl
    rw [tb] at h3
    obtain ⟨a1, a2⟩ := step_in hy hz hf
    rw [tb] at a1 a2
    obtain ⟨_, d2, d3⟩ := out_dist ss x now true a1 a2 h3
    obtain ⟨i, i1, i2, i3, i4⟩ := stp_idx hp2 hz
    obtain ⟨t, t1, t2⟩ := h2 j (by omega)
    rw [← hj] at t2
    obtain ⟨w1, w2⟩ := h1 (j + 1) (by omega)
    obtain ⟨u, u1, u2⟩ := nb_dist hy hc (by rw [hd]; omega)
    have hiu : i = u := Classical.byContradiction fun hne => by
      have := (u2 i x i1.1 i1.2 i2.symm).2 hne; omega
    have htu : t = u := Classical.byContradiction fun hne => by
      have := (u2 t _ t1.1 t1.2 t2).2 hne; omega
    have hx : x = W (j + 1) := fit_inj (by rw [i2, ← t2, hiu, htu])
    have hti : t = i := by omega
    subst hti
    obtain ⟨sc1, sc2⟩ := slot_cnt hq hp2 hz.1
    have l1 : m + 1 + ss.length ≤ 4 := by simp only [List.length_cons] at h4; clear u2 h3 hz; omega
    obtain ⟨⟨c1, c2⟩, ew, qb⟩ := pl_bd hp h0 hm (Nat.le_trans (Nat.le_add_right _ _) l1) sc1 sc2
    obtain ⟨⟨q1, q2, q3, q4⟩, ⟨e1, e2⟩, q5, q6⟩ := j_facts hn4 (show j < n from Nat.lt_of_lt_of_le (Nat.lt_succ_of_le (Nat.le_refl j)) (by rw [← hl']; exact Nat.add_le_add_left (Nat.succ_le_succ (Nat.zero_le _)) _))
    have fin := ih (j + 1) x now true (fch p q + s) (m + 1) hx ⟨fun _ => Nat.succ_pos _, fun _ => rfl⟩ (fun _ => by rw [Nat.add_sub_cancel]; exact hj) ⟨fun _ e => by rw [e] at c1; exact absurd c1 (by decide), fun _ => rfl⟩ a2 (by rw [Nat.add_assoc, Nat.add_comm 1]; exact hl') (Int.le_trans (by decide) c1) c2 l1 h3
    rw [Int.natCast_succ] at fin
    obtain ⟨f1, _⟩ := impl_first_eq hp h0 qb
    have tw := t_wrap hp t1
    refine Ev.up ?_
    have r1 : rd_T25 ((List.range (n + 1)).map W) (j : Int) = now := by rw [hrd (n + 1) j (Nat.lt_of_lt_of_le (Nat.lt_succ_of_le (Nat.le_refl j)) (Nat.succ_le_succ (by rw [← hl']; exact Nat.le_add_right _ _))), hj]
    have r2 : rd_T25 ((List.range (n + 1)).map W) ((j : Int) + 1) = x := by
      rw [← Int.natCast_succ, hrd (n + 1) (j + 1) (Nat.succ_le_succ (by rw [← hl']; exact Nat.add_le_add_left (Nat.succ_le_succ (Nat.zero_le _)) _)), hx]
    simp only [impl_PlaceOfBall.l0, hlen, e1, e2, if_pos q1, if_pos q2, if_pos q3, if_pos q4, r1, r2]
    refine Ev.bind (toward_ev hy t1 i2.symm) ?_
    cases hs : sm with
    | false =>
      have hj0 : j = 0 := Nat.eq_zero_of_not_pos fun h => by rw [hsj.2 h] at hs; cases hs
      have := i4 hs
      simp only [if_neg (q5 hj0)]
      refine Ev.bindv f1 ?_
      rw [this, ew]; exact fin
    | true =>
      have hj1 := hsj.1 hs
      obtain ⟨v, v1, v2, v3, v4⟩ := i3 hs
      obtain ⟨g1, g2, g3, g4⟩ := q6 hj1
      have r3 : rd_T25 ((List.range (n + 1)).map W) ((j - 1 : Nat) : Int) = ahead := by rw [hrd (n + 1) (j - 1) (Int.ofNat_lt.1 g4), hah hs]
      simp only [if_pos g1, g2, if_pos g3, if_pos g4, r3]
      refine Ev.bind (toward_ev hy v1 v2) ?_
      obtain ⟨k1, k2⟩ := skip_cases v4
      by_cases hgt : t > v
      · have hts := k1 hgt
        simp only [if_pos hgt]
        refine Ev.bindv f1 ?_
        rw [tw, show t - 1 = s by rw [hts]; exact Int.add_sub_cancel _ _, ew]; exact fin
      · have hts := k2 hgt (fun e => v3 e.symm)
        simp only [if_neg hgt]
        refine Ev.bindv f1 ?_
        rw [hts, ew]; exact fin
theorem two_balls {p : Int} {b c : S25} (hb : okB p b) (hc : okB p c) : (primeB p && [b, c].all fun x => ballB p x.f0 x.f1 x.f2) = true := by
  have h1 : ballB p b.f0 b.f1 b.f2 = true := hb
  have h2 : ballB p c.f0 c.f1 c.f2 = true := hc
  simp [h1, h2, (ball_parts hb).1]
theorem place_known {p : Int} {b c a x : S25} {ss : List Int} (hb : okB p b) (h4 : ss.length ≤ 4) (h : outR p b x false ss (some (c, a))) : Ev (fun k => impl_PlaceOfBall.f k p b.f0 b.f1 b.f2 c.f0 c.f1 c.f2) (plc p 0 ss, 0) ∧ Ev (fun k => spec_PlaceOfBall.f k p b.f0 b.f1 b.f2 c.f0 c.f1 c.f2) (plc p 0 ss, 0) ∧ okB p c ∧ dsW p b c = ss.length := by
  have hp := (ball_parts hb).1
  have hcm : ∀ y, came p b y false := fun y h => by cases h
  obtain ⟨hc, hd, _⟩ := out_dist ss b x false hb (hcm x) h
  obtain ⟨o, ho, hm⟩ := out_first (a2 := (⟨0, 0, 0⟩ : S25)) h
  obtain ⟨a', rfl⟩ : ∃ a', o = some (c, a') := by
    cases o with
    | none => cases hm
    | some y => obtain ⟨y1, y2⟩ := y; simp only [Option.map_some, Option.some.injEq] at hm; exact ⟨y2, by rw [hm]⟩
  have hall := two_balls hb hc
  have i1 := impl_areBalls_ev p [b, c] (by simp)
  have s1 := spec_l01Code_ev p [b, c] (by simp)
  rw [hall] at i1
  rw [show codeB p [b, c] = true from hall, if_pos rfl] at s1
  have hz0 : (0 : Int) < sz p 0 := by simp [sz]
  refine ⟨?_, ?_, hc, hd⟩
  · obtain ⟨W, n, w1, w2, w3, w4, w5, w6, w7⟩ := way_facts hb hc
    have hn : n = ss.length := by omega
    unfold impl_PlaceOfBall.f
    refine Ev.bind i1 ?_
    simp only [if_true]
    refine Ev.bind (impl_dist_ev hb hc) ?_
    simp only [if_neg (show ¬ dsW p b c > 4 by omega)]
    refine Ev.bind w6 ?_
    exact impl_place_ev (by omega) hc w4 w5 w7 ss 0 b x false 0 0 w2.symm ⟨fun h => (by cases h), fun h => (by omega)⟩ (fun h => by cases h) ⟨fun h => (by cases h), fun h => absurd rfl h⟩ (hcm x) (by omega) (by omega) hz0 (by omega) h
  · unfold spec_PlaceOfBall.f
    refine Ev.bind s1 ?_
    simp only [if_true]
    refine Ev.bind (spec_dist_ev hb hc) ?_
    simp only [if_neg (show ¬ dsW p b c > 4 by omega)]
    exact spec_place_ev ss b ⟨0, 0, 0⟩ false 0 0 hb (hcm _) ⟨fun h => (by cases h), fun h => absurd rfl h⟩ (by omega) hz0 (by omega) ho
theorem place_both (p L T D L' T' D' : Int) : ∃ r : Int × Int, Ev (fun k => impl_PlaceOfBall.f k p L T D L' T' D') r ∧ Ev (fun k => spec_PlaceOfBall.f k p L T D L' T' D') r := by
  have i1 := impl_areBalls_ev p [(⟨L, T, D⟩ : S25), ⟨L', T', D'⟩] (by simp)
  have s1 := spec_l01Code_ev p [(⟨L, T, D⟩ : S25), ⟨L', T', D'⟩] (by simp)
  cases hc : codeB p [(⟨L, T, D⟩ : S25), ⟨L', T', D'⟩] with
  | false =>
    rw [hc] at s1
    unfold codeB at hc
    rw [hc] at i1
    refine ⟨(0, 1), ?_, ?_⟩
    · unfold impl_PlaceOfBall.f
      refine Ev.bind i1 ?_
      simp only [Bool.false_eq_true, if_false]; exact Ev.now _
    · unfold spec_PlaceOfBall.f
      refine Ev.bind s1 ?_
      simp only [Bool.false_eq_true, if_false, if_neg (show ¬ (1 : Int) = 0 by decide)]; exact Ev.now _
  | true =>
    rw [hc] at s1
    have hb : okB p (⟨L, T, D⟩ : S25) ∧ okB p (⟨L', T', D'⟩ : S25) := by
      unfold codeB at hc
      simp only [List.all_cons, List.all_nil, Bool.and_true, Bool.and_eq_true] at hc
      exact hc.2
    by_cases h4 : dsW p (⟨L, T, D⟩ : S25) ⟨L', T', D'⟩ > 4
    · have hall := two_balls hb.1 hb.2
      rw [hall] at i1
      refine ⟨(0, 4), ?_, ?_⟩
      · unfold impl_PlaceOfBall.f
        refine Ev.bind i1 ?_
        simp only [if_true]
        refine Ev.bind (impl_dist_ev hb.1 hb.2) ?_
        simp only [if_pos h4]; exact Ev.now _
      · unfold spec_PlaceOfBall.f
        refine Ev.bind s1 ?_
        simp only [if_true]
        refine Ev.bind (spec_dist_ev hb.1 hb.2) ?_
        simp only [if_pos h4]; exact Ev.now _
    · obtain ⟨W, n, w1, w2, w3, w4, w5, w6, w7⟩ := way_facts hb.1 hb.2
      obtain ⟨ss, a, l, ho⟩ := path_ex (prime_lo (ball_parts hb.1).1) w3 w4 w5 n 0 ⟨0, 0, 0⟩ false (by omega) (fun h => by cases h) (fun h => by cases h)
      rw [w2] at ho
      obtain ⟨k1, k2, _⟩ := place_known hb.1 (by omega) ho
      exact ⟨_, k1, k2⟩

structure okS (c : List Int) (q : Int) : Prop where
  b : ∀ x ∈ c, 0 ≤ x ∧ x ≤ 255
  l : c.length ≤ 5000
  p : 0 ≤ q ∧ q ≤ c.length
theorem mask34 {n : Int} (h0 : 0 ≤ n) (h1 : n < 18446744073709551616) : Go.bits .and .u64 n 17179869183 = n % 17179869184 := by
  obtain ⟨m, rfl⟩ : ∃ m : Nat, n = (m : Int) := ⟨n.toNat, by omega⟩
  have h := Go.bits_and_u64_nat m 17179869183 (by omega) (by omega)
  have e : m &&& 17179869183 = m % 17179869184 := Nat.and_two_pow_sub_one_eq_mod m 34
  rw [e] at h
  rw [show ((17179869183 : Nat) : Int) = 17179869183 from rfl] at h
  rw [h]; omega
theorem next_ok {c : List Int} {q : Int} (S : okS c q) (h a : Int) : ∃ v q' h', spec_l01Next.f c q h a = some (v, q', h') ∧ okS c q' ∧ 0 ≤ v ∧ (1 ≤ a → v < a) := by
  have Sl := S.l
  have Sp := S.p
  unfold spec_l01Next.f
  by_cases h1 : a < 1
  · rw [if_pos h1]; exact ⟨0, q, h, rfl, S, by omega, by omega⟩
  rw [if_neg h1]
  obtain ⟨w, hw⟩ : ∃ w, w = IntKind.u64.wrap (IntKind.u64.wrap (h * 6364136223846793005) + 1442695040888963407) := ⟨_, rfl⟩
  have hw0 : 0 ≤ w ∧ w < 18446744073709551616 := by rw [hw, IntKind.wrap_u64]; omega
  rw [← hw, mask34 (by omega) (by omega), wid (n := w / 8388608 % 17179869184) (by omega) (by omega)]
  by_cases h2 : q < (c.length : Int)
  · have hb : 0 ≤ rd c q ∧ rd c q ≤ 255 := by
      obtain ⟨m, rfl⟩ : ∃ m : Nat, q = (m : Int) := ⟨q.toNat, by omega⟩
      rw [rd_nat c m (by omega)]; exact S.b _ (List.getElem_mem _)
    rw [if_pos h2, if_pos Sp.1, if_neg (show ¬ a = 0 by omega), wid (n := rd c q) (by omega) (by omega), wid (n := w / 8388608 % 17179869184 + rd c q) (by omega) (by omega), wid (n := q + 1) (by omega) (by omega), tmod_cast (by omega)]
    exact ⟨_, _, _, rfl, ⟨S.b, S.l, by omega⟩, Int.emod_nonneg _ (by omega), fun _ => Int.emod_lt_of_pos _ (by omega)⟩
  · rw [if_neg h2, if_neg (show ¬ a = 0 by omega), tmod_cast (by omega)]
    exact ⟨_, _, _, rfl, S, Int.emod_nonneg _ (by omega), fun _ => Int.emod_lt_of_pos _ (by omega)⟩
theorem pick_ok {c : List Int} {q : Int} (S : okS c q) (h : Int) (l : List Int) (hl : 1 ≤ l.length) : ∃ v q' h', spec_l01Pick.f c q h l = some (v, q', h') ∧ okS c q' := by
  obtain ⟨v, q', h', e, S', v0, v1⟩ := next_ok S h (l.length : Int)
  unfold spec_l01Pick.f
  rw [e]
  simp only [Option.bind_some, if_pos v0, if_pos (v1 (by omega))]
  exact ⟨_, _, _, rfl, S'⟩
theorem from_ok {c : List Int} (hb : ∀ x ∈ c, 0 ≤ x ∧ x ≤ 255) (hl : c.length ≤ 5000) : ∃ h, Ev (fun k => spec_l01From.f k c) (c, 0, h) := by
  have key : ∀ d i : Nat, i + d = c.length → ∀ h, ∃ h', Ev (fun k => spec_l01From.l0 k c i c 0 h) (c, 0, h') := by
    intro d
    induction d with
    | zero =>
      intro i hi h
      refine ⟨h, Ev.up ?_⟩
      simp only [spec_l01From.l0, if_neg (show ¬ (i : Int) < (c.length : Int) by omega)]; exact Ev.now _
    | succ d ih =>
      intro i hi h
      by_cases h4 : (i : Int) < 4096
      · obtain ⟨h', e⟩ := ih (i + 1) (by omega) (IntKind.u64.wrap (IntKind.u64.wrap (IntKind.u64.wrap (h * 1099511628211) + IntKind.u64.wrap (rd c i)) + 71))
        refine ⟨h', Ev.up ?_⟩
        simp only [spec_l01From.l0, if_pos (show (i : Int) < (c.length : Int) by omega), if_pos h4, if_pos (show (0 : Int) ≤ (i : Int) by omega)]
        rw [wid (n := (i : Int) + 1) (by omega) (by omega)]
        exact e
      · refine ⟨h, Ev.up ?_⟩
        simp only [spec_l01From.l0, if_pos (show (i : Int) < (c.length : Int) by omega), if_neg h4]; exact Ev.now _
  unfold spec_l01From.f
  exact key c.length 0 (by omega) _

theorem rd_mem {l : List Int} {i : Int} (h0 : 0 ≤ i) (h1 : i < (l.length : Int)) : rd l i ∈ l := by
  obtain ⟨m, rfl⟩ : ∃ m : Nat, i = (m : Int) := ⟨i.toNat, by omega⟩
  rw [rd_nat l m (by omega)]; exact List.getElem_mem _
theorem pick_in {c : List Int} {q : Int} (S : okS c q) (h : Int) (l : List Int) (hl : 1 ≤ l.length) : ∃ v q' h', spec_l01Pick.f c q h l = some (v, q', h') ∧ okS c q' ∧ v ∈ l := by
  obtain ⟨v, q', h', e, S', v0, v1⟩ := next_ok S h (l.length : Int)
  unfold spec_l01Pick.f
  rw [e]
  simp only [Option.bind_some, if_pos v0, if_pos (v1 (by omega))]
  exact ⟨_, _, _, rfl, S', rd_mem v0 (v1 (by omega))⟩
theorem drawB_ok {c : List Int} {q p : Int} (S : okS c q) (h : Int) (hp : primeB p = true) : ∃ a b d q' h', Ev (fun k => spec_l01Draw.f k c q h p) (a, b, d, q', h') ∧ okS c q' := by
  obtain ⟨v1, q1, h1, e1, S1, a1, b1⟩ := next_ok S h 13
  obtain ⟨L, q2, h2, e2, S2, m2⟩ := pick_in S1 h1 [0, 1, 2, 3, wrap64 (v1 - 6)] (by simp)
  have hL : -6 ≤ L ∧ L ≤ 6 := by
    have := b1 (by omega)
    rw [wid (n := v1 - 6) (by omega) (by omega)] at m2
    simp only [List.mem_cons, List.not_mem_nil, or_false] at m2
    omega
  obtain ⟨v3, q3, h3, e3, S3, _⟩ := next_ok S2 h2 6
  unfold spec_l01Draw.f
  by_cases c3 : v3 = 0
  · refine ⟨L, 0, 0, q3, h3, Ev.bindv e1 (Ev.bindv e2 (Ev.bindv e3 ?_)), S3⟩
    simp only [if_pos c3]; exact Ev.now _
  obtain ⟨v4, q4, h4, e4, S4, a4, b4⟩ := next_ok S3 h3 20
  obtain ⟨v5, q5, h5, e5, S5, a5, b5⟩ := next_ok S4 h4 2000000
  obtain ⟨n, q6, h6, e6, S6, m6⟩ := pick_in S5 h5 [wrap64 (v4 - 10), wrap64 (v5 - 1000000)] (by simp)
  have hn : -1000000 ≤ n ∧ n ≤ 1000000 := by
    have := b4 (by omega)
    have := b5 (by omega)
    rw [wid (n := v4 - 10) (by omega) (by omega), wid (n := v5 - 1000000) (by omega) (by omega)] at m6
    simp only [List.mem_cons, List.not_mem_nil, or_false] at m6
    omega
  obtain ⟨v7, q7, h7, e7, S7, a7, b7⟩ := next_ok S6 h6 7
  obtain ⟨x, q8, h8, e8, S8, m8⟩ := pick_in S7 h7 [0, 0, 1, 2, v7] (by simp)
  have hx : 0 ≤ x ∧ x ≤ 6 := by
    have := b7 (by omega)
    simp only [List.mem_cons, List.not_mem_nil, or_false] at m8
    omega
  have ep := spec_l01Power_ev p x (by omega)
  rw [powW_prime hp _ (by omega)] at ep
  have eo := spec_l01Of_pow (num := n) (L := L) x.toNat hp (by omega) (by omega) (by omega) hL
  generalize hB : ofM p L (n * p ^ (6 - x.toNat)) = B at eo
  refine ⟨B.1, B.2.1, B.2.2, q8, h8, Ev.bindv e1 (Ev.bindv e2 (Ev.bindv e3 ?_)), S8⟩
  simp only [if_neg c3]
  refine Ev.bindv e4 (Ev.bindv e5 (Ev.bindv e6 (Ev.bindv e7 (Ev.bindv e8 (Ev.bind ep (Ev.bind eo ?_))))))
  simp only [if_true]
  exact Ev.now _
theorem badB_ok {c : List Int} {q : Int} (S : okS c q) (h x y z : Int) : ∃ a b d q' h', spec_l01Bad.f c q h x y z = some (a, b, d, q', h') ∧ okS c q' := by
  obtain ⟨v, q1, h1, e1, S1, _⟩ := next_ok S h 40
  obtain ⟨x2, q2, h2, e2, S2⟩ := pick_ok S1 h1 [(-7), 7, wrap64 (x - 1), 1099511627776] (by simp)
  obtain ⟨x3, q3, h3, e3, S3⟩ := pick_ok S1 h1 [(-1), wrap64 (y * 7), 1099511627776] (by simp)
  obtain ⟨x4, q4, h4, e4, S4⟩ := pick_ok S1 h1 [(-1), wrap64 (z + 1), 7] (by simp)
  unfold spec_l01Bad.f
  simp only [e1, Option.bind_some]
  by_cases c0 : v = 0
  · simp only [if_pos c0, e2, Option.bind_some]; exact ⟨_, _, _, _, _, rfl, S2⟩
  by_cases c1 : v = 1
  · simp only [if_neg c0, if_pos c1, e3, Option.bind_some]; exact ⟨_, _, _, _, _, rfl, S3⟩
  by_cases c2 : v = 2
  · simp only [if_neg c0, if_neg c1, if_pos c2, e4, Option.bind_some]; exact ⟨_, _, _, _, _, rfl, S4⟩
  · simp only [if_neg c0, if_neg c1, if_neg c2]; exact ⟨_, _, _, _, _, rfl, S1⟩
theorem spoil_ok {c : List Int} {q : Int} (S : okS c q) (h : Int) : ∃ p a b d q' h', Ev (fun k => spec_l01Spoil.f k c q h) (p, a, b, d, q', h') ∧ okS c q' := by
  obtain ⟨p, q1, h1, e1, S1, m1⟩ := pick_in S h [2, 2, 3, 3, 5, 7] (by simp)
  have hp : primeB p = true := by
    simp only [List.mem_cons, List.not_mem_nil, or_false] at m1
    rcases m1 with rfl | rfl | rfl | rfl | rfl | rfl <;> rfl
  obtain ⟨a, b, d, q2, h2, e2, S2⟩ := drawB_ok S1 h1 hp
  obtain ⟨a', b', d', q3, h3, e3, S3⟩ := badB_ok S2 h2 a b d
  obtain ⟨v, q4, h4, e4, S4, _⟩ := next_ok S3 h3 40
  have ed : spec_l01DrawPrime.f c q h = some (p, q1, h1) := by unfold spec_l01DrawPrime.f; rw [e1]; rfl
  unfold spec_l01Spoil.f
  by_cases c0 : v = 0
  · obtain ⟨p', q5, h5, e5, S5⟩ := pick_ok S4 h4 [0, 1, 4, 11, (-3)] (by simp)
    refine ⟨p', a', b', d', q5, h5, Ev.bindv ed (Ev.bind e2 (Ev.bindv e3 (Ev.bindv e4 ?_))), S5⟩
    simp only [if_pos c0]
    exact Ev.bindv e5 (Ev.now _)
  · refine ⟨p, a', b', d', q4, h4, Ev.bindv ed (Ev.bind e2 (Ev.bindv e3 (Ev.bindv e4 ?_))), S4⟩
    simp only [if_neg c0]
    exact Ev.now _
theorem like_ev {l : List Int} (hl : l.length ≤ 4611686018427387904) : Ev (fun k => laws_likeInts.f k l l) true := by
  have key : ∀ (d i : Nat), i + d = l.length → Ev (fun k => laws_likeInts.l0 k l l i) true := by
    intro d
    induction d with
    | zero =>
      intro i hi
      refine Ev.up ?_
      simp only [laws_likeInts.l0, if_neg (show ¬ (i : Int) < (l.length : Int) by omega)]; exact Ev.now _
    | succ d ih =>
      intro i hi
      refine Ev.up ?_
      simp only [laws_likeInts.l0, if_pos (show (i : Int) < (l.length : Int) by omega), if_pos (show (0 : Int) ≤ (i : Int) by omega), if_true]
      rw [wid (n := (i : Int) + 1) (by omega) (by omega)]
      exact ih (i + 1) (by omega)
  unfold laws_likeInts.f
  simp only [if_true]
  exact key l.length 0 (by omega)
theorem near_ok {c : List Int} {q : Int} (S : okS c q) (h a : Int) : ∃ v q' h', spec_l01Near.f c q h a = some (v, q', h') ∧ okS c q' := by
  obtain ⟨v, q', h', e, S', v0, v1⟩ := next_ok S h 14
  unfold spec_l01Near.f
  rw [e]
  simp only [Option.bind_some]
  by_cases hv : v = 0
  · rw [if_pos hv]
    obtain ⟨x, q2, h2, e2, S2⟩ := pick_ok S' h' [-1, wrap64 (a + 1), 1099511627776, -4611686018427387904] (by simp)
    rw [e2]; exact ⟨_, _, _, rfl, S2⟩
  · rw [if_neg hv]
    obtain ⟨x, q2, h2, e2, S2, _⟩ := next_ok S' h' (wrap64 (a + 1))
    rw [e2]; exact ⟨_, _, _, rfl, S2⟩
section
variable {c : List Int} (hb : ∀ x ∈ c, 0 ≤ x ∧ x ≤ 255) (hl : c.length ≤ 5000)
include hb hl
theorem src0 : ∃ h, Ev (fun k => spec_l01From.f k c) (c, 0, h) ∧ okS c 0 := by
  obtain ⟨h, e⟩ := from_ok hb hl
  exact ⟨h, e, ⟨hb, hl, by omega⟩⟩
theorem drawBop_ok : ∃ p a b d i, Ev (fun k => spec_DrawBallOfPlace.f k c) (p, a, b, d, i) := by
  obtain ⟨h, e, S⟩ := src0 hb hl
  obtain ⟨p, a, b, d, q1, h1, e1, S1⟩ := spoil_ok S h
  obtain ⟨v2, q2, h2, e2, S2, _⟩ := next_ok S1 h1 12
  obtain ⟨v3, q3, h3, e3, S3, _⟩ := next_ok S2 h2 60
  obtain ⟨v4, q4, h4, e4, S4⟩ := near_ok S3 h3 500
  obtain ⟨v5, q5, h5, e5, S5⟩ := pick_ok S4 h4 [v2, v3, v4] (by simp)
  refine ⟨p, a, b, d, v5, ?_⟩
  unfold spec_DrawBallOfPlace.f
  exact Ev.bind e (Ev.bind e1 (Ev.bindv e2 (Ev.bindv e3 (Ev.bindv e4 (Ev.bindv e5 (Ev.now _))))))
theorem drawChi_ok : ∃ p i, Ev (fun k => spec_DrawChildPlaces.f k c) (p, i) := by
  obtain ⟨h, e, S⟩ := src0 hb hl
  obtain ⟨v1, q1, h1, e1, S1⟩ := pick_ok S h [2, 3, 5, 7, 2, 4] (by simp)
  obtain ⟨v2, q2, h2, e2, S2, _⟩ := next_ok S1 h1 20
  obtain ⟨v4, q4, h4, e4, S4⟩ := near_ok S2 h2 500
  obtain ⟨v5, q5, h5, e5, S5⟩ := pick_ok S4 h4 [v2, v4] (by simp)
  refine ⟨v1, v5, ?_⟩
  unfold spec_DrawChildPlaces.f
  exact Ev.bind e (Ev.bindv e1 (Ev.bindv e2 (Ev.bindv e4 (Ev.bindv e5 (Ev.now _)))))
theorem drawPar_ok : ∃ p i, Ev (fun k => spec_DrawParentPlace.f k c) (p, i) := by
  obtain ⟨h, e, S⟩ := src0 hb hl
  obtain ⟨v1, q1, h1, e1, S1⟩ := pick_ok S h [2, 3, 5, 7, 2, 4] (by simp)
  obtain ⟨v2, q2, h2, e2, S2, _⟩ := next_ok S1 h1 20
  obtain ⟨v4, q4, h4, e4, S4⟩ := near_ok S2 h2 499
  obtain ⟨v5, q5, h5, e5, S5⟩ := pick_ok S4 h4 [v2, wrap64 (1 + v4)] (by simp)
  refine ⟨v1, v5, ?_⟩
  unfold spec_DrawParentPlace.f
  exact Ev.bind e (Ev.bindv e1 (Ev.bindv e2 (Ev.bindv e4 (Ev.bindv e5 (Ev.now _)))))
theorem drawReg_ok : ∃ p i, Ev (fun k => spec_DrawRegionSize.f k c) (p, i) := by
  obtain ⟨h, e, S⟩ := src0 hb hl
  obtain ⟨v1, q1, h1, e1, S1⟩ := pick_ok S h [2, 3, 5, 7, 4] (by simp)
  obtain ⟨v4, q4, h4, e4, S4⟩ := near_ok S1 h1 4
  refine ⟨v1, v4, ?_⟩
  unfold spec_DrawRegionSize.f
  exact Ev.bind e (Ev.bindv e1 (Ev.bindv e4 (Ev.now _)))
theorem drawPob_ok : ∃ p a b d a' b' d', Ev (fun k => spec_DrawPlaceOfBall.f k c) (p, a, b, d, a', b', d') := by
  obtain ⟨h, e, S⟩ := src0 hb hl
  obtain ⟨p, a, b, d, q1, h1, e1, S1⟩ := spoil_ok S h
  have hp3 : primeB (mn (mx p 2) 3) = true := by
    have : mn (mx p 2) 3 = 2 ∨ mn (mx p 2) 3 = 3 := by unfold mn mx; (repeat' split) <;> omega
    rcases this with e | e <;> rw [e] <;> rfl
  have no : ∀ (q h : Int), okS c q → ∃ r, Ev (fun k => spec_DrawPlaceOfBall.j0 k p false c q h a b d) r := fun q h S => by
    obtain ⟨x, y, z, q2, h2, e2, _⟩ := drawB_ok S h hp3
    refine ⟨(p, a, b, d, x, y, z), Ev.up ?_⟩
    simp only [spec_DrawPlaceOfBall.j0, Bool.false_eq_true, if_false]
    exact Ev.bind e2 (Ev.now _)
  have key : ∃ r : Int × Int × Int × Int × Int × Int × Int, Ev (fun k => spec_DrawPlaceOfBall.f k c) r := by
    cases hB : ballB p a b d with
    | false =>
      have i := spec_l01Is_ev p a b d
      rw [hB] at i
      obtain ⟨r, hr⟩ := no q1 h1 S1
      refine ⟨r, ?_⟩
      unfold spec_DrawPlaceOfBall.f
      refine Ev.bind e (Ev.bind e1 (Ev.bind i ?_))
      simp only [Bool.false_eq_true, if_false]; exact hr
    | true =>
      have i := spec_l01Is_ev p a b d
      rw [hB] at i
      obtain ⟨v, q2, h2, e2, S2, _⟩ := next_ok S1 h1 4
      have go : ∀ (f : Bool), ∃ r, Ev (fun k => spec_DrawPlaceOfBall.j0 k p f c q2 h2 a b d) r := fun f => by
        cases f with
        | false => exact no q2 h2 S2
        | true =>
          obtain ⟨v3, q3, h3, e3, S3, v30, v31⟩ := next_ok S2 h2 40
          have v31 := v31 (by omega)
          have hp := (ball_parts hB).1
          have hp2 := prime_lo hp
          have hob : okB p (⟨a, b, d⟩ : S25) := hB
          have hsl := slots_ok hp2 v3.toNat v3 v30 (Nat.le_refl _)
          have hle := slots_len hp2 v3.toNat v3 v30 (Nat.le_refl _)
          obtain ⟨o, ho⟩ := out_ex (p := p) (slots p v3) ⟨a, b, d⟩ ⟨0, 0, 0⟩ false hob (fun h => by cases h) hsl.1 (fun s hs => by simpa using hsl.2 s hs)
          have hb2 := spec_lb_ev hob v30 (by omega) (by omega) ho
          cases hf : (lbR o).2.2.2 with
          | true =>
            refine ⟨(p, a, b, d, (lbR o).1, (lbR o).2.1, (lbR o).2.2.1), Ev.up ?_⟩
            simp only [spec_DrawPlaceOfBall.j0, if_true]
            refine Ev.bindv e3 (Ev.bind hb2 ?_)
            simp only [hf, if_true]
            exact Ev.now _
          | false =>
            obtain ⟨x, y, z, q4, h4, e4, _⟩ := drawB_ok S3 h3 hp3
            refine ⟨(p, a, b, d, x, y, z), Ev.up ?_⟩
            simp only [spec_DrawPlaceOfBall.j0, if_true]
            refine Ev.bindv e3 (Ev.bind hb2 ?_)
            simp only [hf, Bool.false_eq_true, if_false]
            exact Ev.bind e4 (Ev.now _)
      obtain ⟨r, hr⟩ := go (decide (v > 0))
      refine ⟨r, ?_⟩
      unfold spec_DrawPlaceOfBall.f
      refine Ev.bind e (Ev.bind e1 (Ev.bind i ?_))
      simp only [if_true]
      exact Ev.bindv e2 hr
  obtain ⟨⟨x1, x2, x3, x4, x5, x6, x7⟩, h⟩ := key
  exact ⟨_, _, _, _, _, _, _, h⟩
end
theorem par_both (p i : Int) : ∃ r : Int × Int, impl_ParentPlace.f p i = some r ∧ spec_ParentPlace.f p i = some r ∧ (primeB p = true → 1 ≤ i → i ≤ 500 → r = (par p i, 0)) := by
  unfold impl_ParentPlace.f spec_ParentPlace.f
  rw [impl_isPrime_eq, spec_l01Prime_eq]
  simp only [Option.bind_some]
  cases hp : primeB p with
  | false => exact ⟨_, rfl, rfl, fun h => by cases h⟩
  | true =>
    simp only [if_true]
    rw [In_eq]
    simp only [Option.bind_some]
    by_cases h : 1 ≤ i ∧ i ≤ 500
    · rw [if_neg (by omega), if_neg (by omega), if_pos (decide_eq_true h), impl_parent_eq hp (by omega) (by omega), spec_parent_eq hp (by omega) (by omega)]
      exact ⟨_, rfl, rfl, fun _ _ _ => rfl⟩
    · rw [decide_eq_false h, if_neg (show ¬ (false = true) by decide)]
      by_cases h1 : i < 1
      · rw [if_pos h1]; exact ⟨_, rfl, rfl, fun _ _ _ => by omega⟩
      · rw [if_neg h1, if_pos (show i > 500 by omega)]; exact ⟨_, rfl, rfl, fun _ _ _ => by omega⟩
theorem chi_both (p i : Int) : ∃ r : List Int × Int, Ev (fun k => impl_ChildPlaces.f k p i) r ∧ Ev (fun k => spec_ChildPlaces.f k p i) r ∧ (r.1 = [] ∨ primeB p = true ∧ (0 ≤ i ∧ i ≤ 500) ∧ r.1 = chs p i) := by
  unfold impl_ChildPlaces.f spec_ChildPlaces.f
  rw [impl_isPrime_eq, spec_l01Prime_eq]
  simp only [Option.bind_some]
  cases hp : primeB p with
  | false => exact ⟨([], 1), Ev.now _, Ev.now _, .inl rfl⟩
  | true =>
    simp only [if_true]
    rw [In_eq]
    simp only [Option.bind_some]
    have hp2 := prime_lo hp
    have hp7 := prime_hi hp
    by_cases h : 0 ≤ i ∧ i ≤ 500
    · refine ⟨(chs p i, 0), ?_, ?_, .inr ⟨trivial, h, rfl⟩⟩
      · simp only [if_neg (show ¬ i < 0 by omega), if_neg (show ¬ i > 500 by omega)]
        exact Ev.bind (impl_childs_ev hp h.1 (by omega)) (Ev.now _)
      · simp only [decide_eq_true h, if_true]
        refine Ev.bindv (spec_child_eq hp h.1 (by omega)) ?_
        obtain ⟨_, f1, f2⟩ := impl_first_eq hp h.1 (show i ≤ 1000000 by omega)
        have hc := cnt_le hp7 i
        have key : ∀ d j : Nat, j + d = cnt p i → Ev (fun k => spec_ChildPlaces.l0 k ((List.range j).map (fun (q : Nat) => fch p i + (q : Int))) (fch p i) (cnt p i) j) (chs p i, 0) := by
          intro d
          induction d with
          | zero =>
            intro j hj
            obtain rfl : j = cnt p i := by omega
            refine Ev.up ?_
            simp only [spec_ChildPlaces.l0, if_neg (show ¬ ((cnt p i : Nat) : Int) < ((cnt p i : Nat) : Int) by omega)]; exact Ev.now _
          | succ d ih =>
            intro j hj
            refine Ev.up ?_
            simp only [spec_ChildPlaces.l0, if_pos (show (j : Int) < ((cnt p i : Nat) : Int) by omega), List.length_map, List.length_range, if_pos (show j < 17592186044416 by omega)]
            rw [wid (n := fch p i + (j : Int)) (by omega) (by omega), wid (n := (j : Int) + 1) (by omega) (by omega)]
            have := ih (j + 1) (by omega)
            rw [List.range_succ, List.map_append] at this
            exact this
        exact key (cnt p i) 0 (by omega)
    · refine ⟨([], 2), ?_, ?_, .inl rfl⟩
      · by_cases h1 : i < 0
        · simp only [if_pos h1]; exact Ev.now _
        · simp only [if_neg h1, if_pos (show i > 500 by omega)]; exact Ev.now _
      · simp only [decide_eq_false h, Bool.false_eq_true, if_false]; exact Ev.now _
theorem reg_both (p i : Int) : ∃ r : Int × Int, Ev (fun k => impl_RegionSize.f k p i) r ∧ Ev (fun k => spec_RegionSize.f k p i) r := by
  unfold impl_RegionSize.f spec_RegionSize.f spec_l07Code.f
  rw [impl_isPrime_eq, spec_l01Prime_eq]
  simp only [Option.bind_some]
  cases hp : primeB p with
  | false =>
    refine ⟨(0, 1), by simp only [Bool.false_eq_true, if_false]; exact Ev.now _, ?_⟩
    simp only [Bool.false_eq_true, if_false, Option.bind_some, if_neg (show ¬ (1 : Int) = 0 by decide)]; exact Ev.now _
  | true =>
    simp only [if_true]
    rw [In_eq]
    have hr : impl_isReach.f i = some (decide (0 ≤ i ∧ i ≤ 4)) := by
      unfold impl_isReach.f
      by_cases h : i ≥ 0
      · rw [if_pos h]; congr 1; exact decide_eq_decide.2 ⟨fun h2 => ⟨h, h2⟩, fun h2 => h2.2⟩
      · rw [if_neg h]; congr 1; exact (decide_eq_false (fun h2 => h h2.1)).symm
    rw [hr]
    simp only [Option.bind_some]
    by_cases h : 0 ≤ i ∧ i ≤ 4
    · rw [decide_eq_true h]
      simp only [if_true]
      obtain ⟨n, rfl⟩ : ∃ n : Nat, i = (n : Int) := ⟨i.toNat, by omega⟩
      have z1 := impl_size_ev hp (n := n) (by omega)
      have z2 := spec_size_ev hp (n := n) (by omega)
      by_cases hz : sz p n > 500
      · refine ⟨(0, 3), Ev.bind z1 ?_, ?_⟩
        · simp only [if_pos hz]; exact Ev.now _
        · refine Ev.bind (a := 3) (Ev.bind z2 ?_) ?_
          · simp only [if_pos hz]; exact Ev.now _
          · simp only [if_neg (show ¬ (3 : Int) = 0 by decide)]; exact Ev.now _
      · refine ⟨(sz p n, 0), Ev.bind z1 ?_, ?_⟩
        · simp only [if_neg hz]; exact Ev.bind z1 (Ev.now _)
        · refine Ev.bind (a := 0) (Ev.bind z2 ?_) ?_
          · simp only [if_neg hz]; exact Ev.now _
          · simp only [if_true]; exact Ev.bind z2 (Ev.now _)
    · rw [decide_eq_false h]
      simp only [Bool.false_eq_true, if_false, Option.bind_some]
      refine ⟨(0, 2), Ev.now _, ?_⟩
      simp only [if_neg (show ¬ (2 : Int) = 0 by decide)]; exact Ev.now _
theorem bop_both (p L T D i : Int) : ∃ r : Int × Int × Int × Int, Ev (fun k => impl_BallOfPlace.f k p L T D i) r ∧ Ev (fun k => spec_BallOfPlace.f k p L T D i) r ∧ (r.2.2.2 = 0 → ballB p L T D = true ∧ (0 ≤ i ∧ i ≤ 500) ∧ (slots p i).length ≤ 4 ∧ ∃ e a : S25, r = (e.f0, e.f1, e.f2, 0) ∧ outR p ⟨L, T, D⟩ ⟨L, T, D⟩ false (slots p i) (some (e, a))) := by
  have ib := impl_IsBall_ev p L T D
  have sc := spec_l01Code_ev p [(⟨L, T, D⟩ : S25)] (by simp)
  have two : ∃ r : Int × Int × Int × Int, r = (0, 0, 0, 2) ∧ Ev (fun k => impl_BallOfPlace.j0 k p i true L T D) r ∧ Ev (fun k => spec_BallOfPlace.j0 k p i true L T D) r := ⟨_, rfl, Ev.up (by simp only [impl_BallOfPlace.j0, if_true]; exact Ev.now _), Ev.up (by simp only [spec_BallOfPlace.j0, if_true]; exact Ev.now _)⟩
  obtain ⟨r2, r20, r21, r22⟩ := two
  cases hB : ballB p L T D with
  | false =>
    have : codeB p [(⟨L, T, D⟩ : S25)] = false := by unfold codeB; simp [hB]
    rw [hB] at ib
    rw [this] at sc
    refine ⟨(0, 0, 0, 1), ?_, ?_, fun h => by cases h⟩
    · unfold impl_BallOfPlace.f
      refine Ev.bind ib ?_
      simp only [Bool.false_eq_true, if_false]; exact Ev.now _
    · unfold spec_BallOfPlace.f
      refine Ev.bind sc ?_
      simp only [Bool.false_eq_true, if_false, if_neg (show ¬ (1 : Int) = 0 by decide)]; exact Ev.now _
  | true =>
    have hp := (ball_parts hB).1
    have hp2 := prime_lo hp
    have hob : okB p (⟨L, T, D⟩ : S25) := hB
    have : codeB p [(⟨L, T, D⟩ : S25)] = true := by unfold codeB; simp [hB, hp]
    rw [hB] at ib
    rw [this] at sc
    by_cases hi : 0 ≤ i ∧ i ≤ 500
    · obtain ⟨d1, d2⟩ := depth_ev hp i.toNat i 0 hi.1 (by omega) (Nat.le_refl _) (by omega) (by omega)
      have startI : ∀ r, Ev (fun k => impl_BallOfPlace.j0 k p i (decide (0 + ((slots p i).length : Int) > 4)) L T D) r → Ev (fun k => impl_BallOfPlace.f k p L T D i) r := fun r hr => by
        unfold impl_BallOfPlace.f
        refine Ev.bind ib ?_
        simp only [if_true, if_neg (show ¬ i < 0 by omega), if_neg (show ¬ i > 500 by omega)]
        unfold impl_depthOf.f
        exact Ev.bind d1 hr
      have startS : ∀ r, Ev (fun k => spec_BallOfPlace.j0 k p i (decide (0 + ((slots p i).length : Int) > 4)) L T D) r → Ev (fun k => spec_BallOfPlace.f k p L T D i) r := fun r hr => by
        unfold spec_BallOfPlace.f
        refine Ev.bind sc ?_
        simp only [if_true]
        refine Ev.bindv (In_eq _ _ _) ?_
        rw [decide_eq_true hi]
        simp only [if_true]
        unfold spec_l07Depth.f
        exact Ev.bind d2 hr
      by_cases h4 : (slots p i).length ≤ 4
      · rw [decide_eq_false (show ¬ 0 + ((slots p i).length : Int) > 4 by omega)] at startI startS
        obtain ⟨o, r, o1, o2, o3⟩ := impl_bop_ev hob i.toNat i hi.1 (by omega) (Nat.le_refl _)
        obtain ⟨o', ho', hm⟩ := out_first (a2 := (⟨0, 0, 0⟩ : S25)) o1
        have s3 := spec_lb_ev hob hi.1 (show i ≤ 1000 by omega) (by omega) ho'
        cases o with
        | none =>
          have : o' = none := by cases o' with | none => rfl | some y => cases hm
          subst this
          have o2' : r.2.2.2.2.2.2 = false := o2
          refine ⟨(0, 0, 0, 3), startI _ (Ev.up ?_), startS _ (Ev.up ?_), fun h => by cases h⟩
          · simp only [impl_BallOfPlace.j0, Bool.false_eq_true, if_false]
            refine Ev.bind o3 ?_
            rw [o2']
            exact Ev.bindv (show impl_fitted.f r.1 r.2.1 r.2.2.1 false = some (0, 0, 0, 3) from rfl) (Ev.now _)
          · simp only [spec_BallOfPlace.j0, Bool.false_eq_true, if_false]
            refine Ev.bind s3 ?_
            simp only [lbR, Bool.false_eq_true, if_false]; exact Ev.now _
        | some ea =>
          obtain ⟨e, a⟩ := ea
          obtain ⟨a', rfl⟩ : ∃ a', o' = some (e, a') := by
            cases o' with
            | none => cases hm
            | some y => obtain ⟨y1, y2⟩ := y; simp only [Option.map_some, Option.some.injEq] at hm; exact ⟨y2, by rw [hm]⟩
          obtain rfl : r = (e.f0, e.f1, e.f2, a.f0, a.f1, a.f2, true) := o2
          refine ⟨(e.f0, e.f1, e.f2, 0), startI _ (Ev.up ?_), startS _ (Ev.up ?_), fun _ => ⟨rfl, hi, h4, e, a, rfl, o1⟩⟩
          · simp only [impl_BallOfPlace.j0, Bool.false_eq_true, if_false]
            refine Ev.bind o3 ?_
            exact Ev.bindv (show impl_fitted.f e.f0 e.f1 e.f2 true = some (e.f0, e.f1, e.f2, 0) from rfl) (Ev.now _)
          · simp only [spec_BallOfPlace.j0, Bool.false_eq_true, if_false]
            refine Ev.bind s3 ?_
            simp only [lbR, if_true]; exact Ev.now _
      · rw [decide_eq_true (show 0 + ((slots p i).length : Int) > 4 by omega)] at startI startS
        exact ⟨r2, startI _ r21, startS _ r22, fun h => by rw [r20] at h; cases h⟩
    · refine ⟨r2, ?_, ?_, fun h => by rw [r20] at h; cases h⟩
      · unfold impl_BallOfPlace.f
        refine Ev.bind ib ?_
        simp only [if_true]
        by_cases h1 : i < 0
        · simp only [if_pos h1]; exact r21
        · simp only [if_neg h1, if_pos (show i > 500 by omega)]; exact r21
      · unfold spec_BallOfPlace.f
        refine Ev.bind sc ?_
        simp only [if_true]
        refine Ev.bindv (In_eq _ _ _) ?_
        rw [decide_eq_false hi]
        simp only [Bool.false_eq_true, if_false]; exact r22
theorem FnPlaces : laws_FnPlaces.Pure := by
  intro c _ _ hwf
  refine Ev.rounds ?_
  unfold laws_FnPlaces.f laws_big.f
  simp only [Option.bind_some]
  by_cases hbig : (c.length : Int) > 4096
  · simp only [decide_eq_true hbig, if_true]; exact Ev.now _
  simp only [decide_eq_false hbig, Bool.false_eq_true, if_false]
  have hb : ∀ x ∈ c, 0 ≤ x ∧ x ≤ 255 := fun x hx => by
    have := hwf x hx
    simp only [Lit.wf, Bool.and_eq_true, decide_eq_true_eq] at this
    exact ⟨this.1, this.2⟩
  have hl : c.length ≤ 5000 := by omega
  have j7 : Ev (fun k => laws_FnPlaces.j7 k c) true := by
    obtain ⟨p, a, b, d, a', b', d', e1⟩ := drawPob_ok hb hl
    obtain ⟨p2, i2, e2⟩ := drawPar_ok hb hl
    obtain ⟨p3, i3, e3⟩ := drawReg_ok hb hl
    obtain ⟨r1, x1, y1⟩ := place_both p a b d a' b' d'
    obtain ⟨r2, x2, y2, _⟩ := par_both p2 i2
    obtain ⟨r3, x3, y3⟩ := reg_both p3 i3
    refine Ev.up ?_
    simp only [laws_FnPlaces.j7]
    refine Ev.bind e1 (Ev.bind x1 (Ev.bind y1 (Ev.bind e2 (Ev.bindv x2 (Ev.bindv y2 (Ev.bind e3 (Ev.bind x3 (Ev.bind y3 ?_))))))))
    simp only [if_true, beq_self_eq_true]
    exact Ev.now _
  have j4 : Ev (fun k => laws_FnPlaces.j4 k c) true := by
    obtain ⟨p, i, e1⟩ := drawChi_ok hb hl
    obtain ⟨r, x1, y1, hr⟩ := chi_both p i
    have hrl : r.1.length ≤ 1000 := by
      rcases hr with hr | ⟨hp, _, hr⟩
      · rw [hr]; simp
      · rw [hr, chs_len]
        have := cnt_le (prime_hi hp) i
        omega
    have loop : ∀ d j : Nat, j + d = r.1.length → Ev (fun k => laws_FnPlaces.l1 k c p i r.1 j) true := by
      intro d
      induction d with
      | zero =>
        intro j hj
        refine Ev.up ?_
        simp only [laws_FnPlaces.l1, if_neg (show ¬ (j : Int) < (r.1.length : Int) by omega)]
        exact j7
      | succ d ih =>
        intro j hj
        refine Ev.up ?_
        simp only [laws_FnPlaces.l1, if_pos (show (j : Int) < (r.1.length : Int) by omega), if_pos (show (0 : Int) ≤ (j : Int) by omega)]
        rcases hr with hr | ⟨hp, hi, hr⟩
        · rw [hr] at hj; simp at hj
        · have hj2 : j < cnt p i := by rw [hr, chs_len] at hj; omega
          have e : rd r.1 (j : Int) = fch p i + j := by rw [hr]; exact chs_rd hj2
          have f := impl_first_eq hp hi.1 (show i ≤ 1000000 by omega)
          obtain ⟨q, x2, _, h2⟩ := par_both p (fch p i + j)
          rw [e, wid (n := (j : Int) + 1) (by omega) (by omega)]
          by_cases h5 : fch p i + (j : Int) > 500
          · simp only [if_pos h5]; exact j7
          · simp only [if_neg h5]
            refine Ev.bindv x2 ?_
            rw [h2 hp (by omega) (by omega), par_child (prime_lo hp) hi.1 hj2]
            simp only [if_true]
            exact ih (j + 1) (by omega)
    refine Ev.up ?_
    simp only [laws_FnPlaces.j4]
    refine Ev.bind e1 (Ev.bind x1 (Ev.bind y1 ?_))
    simp only [if_true]
    refine Ev.bind (like_ev (by omega)) (Ev.up ?_)
    simp only [laws_FnPlaces.j5, Bool.not_true, Bool.false_eq_true, if_false]
    exact loop r.1.length 0 (by omega)
  obtain ⟨p, L, T, D, i, e1⟩ := drawBop_ok hb hl
  obtain ⟨r, x1, y1, hr⟩ := bop_both p L T D i
  refine Ev.bind e1 (Ev.bind x1 (Ev.bind y1 ?_))
  simp only [if_true, beq_self_eq_true, Bool.not_true, Bool.or_self]
  refine Ev.up ?_
  simp only [laws_FnPlaces.j0, Bool.false_eq_true, if_false]
  by_cases h0 : r.2.2.2 = 0
  · simp only [if_pos h0]
    obtain ⟨hB, hi, h4, e, a, rfl, ho⟩ := hr h0
    have hp := (ball_parts hB).1
    have hp2 := prime_lo hp
    have hob : okB p (⟨L, T, D⟩ : S25) := hB
    obtain ⟨k1, _, k3, k4⟩ := place_known hob h4 ho
    rw [plc_slots hp2 i.toNat i hi.1 (Nat.le_refl _)] at k1
    have td : Ev (fun k => impl_TreeDistance.f k p L T D e.f0 e.f1 e.f2) (((slots p i).length : Int), 0) := by
      have ia := impl_areBalls_ev p [(⟨L, T, D⟩ : S25), e] (by simp)
      rw [two_balls hob k3] at ia
      unfold impl_TreeDistance.f
      refine Ev.bind ia ?_
      simp only [if_true]
      refine Ev.bind (impl_dist_ev hob k3) ?_
      rw [k4]; exact Ev.now _
    refine Ev.bind k1 (Ev.bind td ?_)
    simp only [if_true, bne_self_eq_false]
    refine Ev.up ?_
    simp only [laws_FnPlaces.j1, Bool.false_eq_true, if_false]
    have loop : ∀ (n : Nat) (x q : Int), q.toNat ≤ n → 0 ≤ q → q ≤ 500 → 0 ≤ x → x + ((slots p q).length : Int) = ((slots p i).length : Int) → Ev (fun k => laws_FnPlaces.l0 k c p ((slots p i).length : Int) x q) true := by
      have base : ∀ x : Int, x + ((slots p 0).length : Int) = ((slots p i).length : Int) → Ev (fun k => laws_FnPlaces.l0 k c p ((slots p i).length : Int) x 0) true := fun x hx => by
        rw [slots_0, show (([] : List Int).length : Int) = 0 from rfl] at hx
        refine Ev.up ?_
        simp only [laws_FnPlaces.l0, if_neg (show ¬ (0 : Int) > 0 by omega)]
        refine Ev.up ?_
        simp only [laws_FnPlaces.j3, Bool.false_eq_true, if_false, if_pos (show x = ((slots p i).length : Int) by omega)]
        exact j4
      intro n
      induction n with
      | zero => intro x q h1 h2 _ _ hx; obtain rfl : q = 0 := by omega
                exact base x hx
      | succ n ih =>
        intro x q h1 h2 h3 hx0 hx
        by_cases hq : q = 0
        · subst hq; exact base x hx
        have hlt := par_lt hp2 (show 1 ≤ q by omega)
        have el : ((slots p q).length : Int) = ((slots p (par p q)).length : Int) + 1 := by rw [slots_s hp2 (show 1 ≤ q by omega), List.length_append, List.length_singleton]; rfl
        obtain ⟨y, z1, _, z2⟩ := par_both p q
        refine Ev.up ?_
        simp only [laws_FnPlaces.l0, if_pos (show q > 0 by omega), decide_eq_true (show x < 9 by omega)]
        refine Ev.up ?_
        simp only [laws_FnPlaces.j3, if_true]
        refine Ev.bindv z1 ?_
        rw [z2 hp (by omega) h3, wid (n := x + 1) (by omega) (by omega)]
        simp only [if_true]
        exact ih (x + 1) (par p q) (by omega) hlt.1 (by omega) (by omega) (by omega)
    exact loop i.toNat 0 i (Nat.le_refl _) hi.1 hi.2 (by omega) (by omega)
  · simp only [if_neg h0]; exact j4

end Go.Proofs.Ytgoeelhiffbjlaa.Pure
