/- For every p, root and flow, MeasureOfFlow of the program and of the reference return the same measure and code, leave the flow alone and return a measure of its own; no condition beyond the row's. -/
import Derived.Test.YtdfcoebadjhjlaaQIx77
namespace Go.Proofs.Ytdfcoebadjhjlaa.Pure
open Go.RowKit Go.Proofs.Ytdfcoebadjhjlaa.QI Go.Proofs.YtdfcoebadjhjlaaW.PrintWords Go.Proofs.YtdfcoebadjhjlaaW.PrintLast
set_option linter.unusedVariables false
set_option linter.unusedSimpArgs false
set_option linter.unusedSectionVars false

theorem wid {n : Int} (h0 : -9223372036854775808 ≤ n) (h1 : n ≤ 9223372036854775807) : wrap64 n = n := by unfold wrap64; omega
theorem Ev.val {α : Type} {o : Option α} {r : α} (h : o = some r) : Ev (fun _ => o) r := ⟨0, fun _ _ => h⟩
theorem Ev.bindv {α β : Type} {o : Option α} {f : Nat → α → Option β} {a : α} {r : β} (h : o = some a) (k : Ev (fun n => f n a) r) : Ev (fun n => o.bind (f n)) r := by
  subst h; exact k

def sumTo (f : Nat → Nat) : Nat → Nat
  | 0 => 0
  | n + 1 => sumTo f n + f n
theorem sumTo_add (f g : Nat → Nat) (n : Nat) : sumTo (fun y => f y + g y) n = sumTo f n + sumTo g n := by
  induction n with
  | zero => rfl
  | succ n ih => simp only [sumTo]; rw [ih]; omega
theorem sumTo_le {f g : Nat → Nat} {n : Nat} (h : ∀ y, y < n → f y ≤ g y) : sumTo f n ≤ sumTo g n := by
  induction n with
  | zero => exact Nat.le_refl _
  | succ n ih => simp only [sumTo]; have := ih (fun y hy => h y (by omega)); have := h n (by omega); omega
theorem sumTo_eq {f g : Nat → Nat} {n : Nat} (h : ∀ y, y < n → f y ≤ g y) (e : sumTo f n = sumTo g n) : ∀ y, y < n → f y = g y := by
  induction n with
  | zero => intro y hy; omega
  | succ n ih =>
    simp only [sumTo] at e
    have h1 := sumTo_le (f := f) (g := g) (n := n) (fun y hy => h y (by omega))
    have h2 := h n (by omega)
    intro y hy
    rcases Nat.lt_or_ge y n with hl | hl
    · exact ih (fun y hy => h y (by omega)) (by omega) y hl
    · have : y = n := by omega
      subst this; omega
theorem sumTo_congr {f g : Nat → Nat} {n : Nat} (h : ∀ y, y < n → f y = g y) : sumTo f n = sumTo g n := by
  induction n with
  | zero => rfl
  | succ n ih => simp only [sumTo]; rw [ih (fun y hy => h y (by omega)), h n (by omega)]
theorem sumTo_plus (f : Nat → Nat) (n m : Nat) : sumTo f (n + m) = sumTo f n + sumTo (fun y => f (n + y)) m := by
  induction m with
  | zero => rfl
  | succ m ih => rw [← Nat.add_assoc]; simp only [sumTo]; rw [ih]; omega
theorem sumTo_one {r m : Nat} (h : r < m) : sumTo (fun y => if y = r then 1 else 0) m = 1 := by
  induction m with
  | zero => omega
  | succ m ih =>
    simp only [sumTo]
    by_cases c : r < m
    · rw [ih c, if_neg (by omega)]
    · have : r = m := by omega
      subst this
      have z : sumTo (fun y => if y = r then 1 else 0) r = 0 := by
        rw [sumTo_congr (g := fun _ => 0) (fun y hy => if_neg (by omega))]
        clear ih h c
        induction r with
        | zero => rfl
        | succ r ih => simp only [sumTo]; exact ih
      rw [z, if_pos rfl]
theorem sumTo_class {m r : Nat} (h : r < m) (q : Nat) : sumTo (fun y => if y % m = r then 1 else 0) (q * m) = q := by
  induction q with
  | zero => rw [Nat.zero_mul]; rfl
  | succ q ih =>
    rw [Nat.add_mul, Nat.one_mul, sumTo_plus, ih]
    have : sumTo (fun y => if (q * m + y) % m = r then 1 else 0) m = 1 := by
      refine Eq.trans (sumTo_congr fun y hy => ?_) (sumTo_one h)
      rw [Nat.mul_comm, Nat.mul_add_mod, Nat.mod_eq_of_lt hy]
    rw [this]
def inCl (l : List (Nat × Nat)) (y : Nat) : Nat := match l with
  | [] => 0
  | c :: cs => (if y % c.1 = c.2 then 1 else 0) + inCl cs y
theorem inCl_pos {l : List (Nat × Nat)} {y : Nat} (h : 0 < inCl l y) : ∃ c ∈ l, y % c.1 = c.2 := by
  induction l with
  | nil => exact absurd h (Nat.lt_irrefl _)
  | cons c cs ih =>
    unfold inCl at h
    by_cases e : y % c.1 = c.2
    · exact ⟨c, List.mem_cons_self, e⟩
    · rw [if_neg e, Nat.zero_add] at h
      obtain ⟨d, hd, h2⟩ := ih h
      exact ⟨d, List.mem_cons_of_mem _ hd, h2⟩
theorem inCl_one {l : List (Nat × Nat)} (ha : l.Pairwise fun c d => ∀ y, ¬ (y % c.1 = c.2 ∧ y % d.1 = d.2)) (y : Nat) : inCl l y ≤ 1 := by
  induction l with
  | nil => exact Nat.zero_le _
  | cons c cs ih =>
    obtain ⟨h1, h2⟩ := List.pairwise_cons.1 ha
    unfold inCl
    by_cases e : y % c.1 = c.2
    · rw [if_pos e]
      have : inCl cs y = 0 := by
        rcases Nat.eq_zero_or_pos (inCl cs y) with h | h
        · exact h
        · obtain ⟨d, hd, h3⟩ := inCl_pos h
          exact absurd ⟨e, h3⟩ (h1 d hd y)
      omega
    · rw [if_neg e]; have := ih h2; omega
theorem sumTo_inCl {N : Nat} (l : List (Nat × Nat)) (h : ∀ c ∈ l, c.2 < c.1 ∧ ∃ q, N = q * c.1) : sumTo (inCl l) N = (l.map fun c => N / c.1).sum := by
  induction l with
  | nil =>
    show sumTo (fun _ => 0) N = 0
    induction N with
    | zero => rfl
    | succ N ih => simp only [sumTo]; exact ih (fun c hc => absurd hc List.not_mem_nil)
  | cons c cs ih =>
    show sumTo (fun y => (if y % c.1 = c.2 then 1 else 0) + inCl cs y) N = _
    rw [sumTo_add, ih (fun d hd => h d (List.mem_cons_of_mem _ hd)), List.map_cons, List.sum_cons]
    congr 1
    obtain ⟨h1, q, h2⟩ := h c List.mem_cons_self
    rw [h2, sumTo_class h1 q, Nat.mul_div_cancel q (by omega)]
theorem cover {N M R : Nat} {l : List (Nat × Nat)} (hR : R < M ∧ ∃ q, N = q * M) (h : ∀ c ∈ l, c.2 < c.1 ∧ ∃ q, N = q * c.1) (hin : ∀ c ∈ l, ∀ y, y % c.1 = c.2 → y % M = R) (ha : l.Pairwise fun c d => ∀ y, ¬ (y % c.1 = c.2 ∧ y % d.1 = d.2)) (hs : (l.map fun c => N / c.1).sum = N / M) {y : Nat} (hy : y < N) (hyR : y % M = R) : ∃ c ∈ l, y % c.1 = c.2 := by
  have h1 := sumTo_inCl l h
  obtain ⟨hR1, q, hR2⟩ := hR
  have h2 : sumTo (fun y => if y % M = R then 1 else 0) N = N / M := by
    rw [hR2, sumTo_class hR1 q, Nat.mul_div_cancel q (by omega)]
  have hle : ∀ z, z < N → inCl l z ≤ if z % M = R then 1 else 0 := fun z _ => by
    by_cases e : z % M = R
    · rw [if_pos e]; exact inCl_one ha z
    · rw [if_neg e]
      rcases Nat.eq_zero_or_pos (inCl l z) with h0 | h0
      · omega
      · obtain ⟨c, hc, h3⟩ := inCl_pos h0
        exact absurd (hin c hc z h3) e
  have := sumTo_eq hle (by rw [h1, h2, hs]) y hy
  rw [if_pos hyR] at this
  exact inCl_pos (by omega)

theorem Ev.up {α : Type} {g : Nat → Option α} {r : α} (h : Ev (fun k => g (k + 1)) r) : Ev g r := Ev.step (f := fun k => g (k + 1)) (fun _ => rfl) h

def powW (p : Int) : Nat → Int → Int
  | 0, acc => acc
  | n + 1, acc => powW p n (wrap64 (acc * p))

def primeB (p : Int) : Bool := p == 2 || (p == 3 || (p == 5 || p == 7))
theorem prime_cases {p : Int} (h : primeB p = true) : p = 2 ∨ p = 3 ∨ p = 5 ∨ p = 7 := by
  simpa [primeB] using h
theorem prime_lo {p : Int} (h : primeB p = true) : 2 ≤ p := by rcases prime_cases h with h | h | h | h <;> omega
theorem ipow_pos {p : Int} (hp : 1 ≤ p) (n : Nat) : (1 : Int) ≤ p ^ n := by
  have := Int.pow_pos (n := p) (m := n) (by omega)
  omega
theorem ipow_mono {p : Int} (hp : 1 ≤ p) {m n : Nat} (h : m ≤ n) : p ^ m ≤ p ^ n := by
  obtain ⟨d, rfl⟩ : ∃ d, n = m + d := ⟨n - m, by omega⟩
  rw [Int.pow_add]
  have h1 := ipow_pos hp m
  have h2 := ipow_pos hp d
  have := Int.mul_le_mul_of_nonneg_left h2 (show 0 ≤ p ^ m by omega)
  rwa [Int.mul_one] at this
theorem powW_fit (p : Int) (hp : 1 ≤ p) (n : Nat) : ∀ (acc : Int), 0 ≤ acc → acc * p ^ n ≤ 9223372036854775807 → powW p n acc = acc * p ^ n := by
  induction n with
  | zero => intro acc _ _; simp [powW]
  | succ n ih =>
    intro acc h0 h
    have hpn : (1 : Int) ≤ p ^ n := ipow_pos hp n
    have e : acc * p ^ (n + 1) = acc * p * p ^ n := by rw [Int.pow_succ, Int.mul_comm (p ^ n) p, ← Int.mul_assoc]
    have h1 : 0 ≤ acc * p := Int.mul_nonneg h0 (by omega)
    have h2 : acc * p ≤ acc * p * p ^ n := by
      have := Int.mul_le_mul_of_nonneg_left hpn h1
      rwa [Int.mul_one] at this
    simp only [powW]
    rw [wid (by omega) (by omega), ih _ h1 (by omega), e]
theorem pow_le_top {p : Int} (h : primeB p = true) (n : Nat) (hn : n ≤ 22) : p ^ n ≤ 9223372036854775807 := by
  have hp := prime_lo h
  have h1 : p ^ n ≤ p ^ 22 := ipow_mono (by omega) hn
  have h2 : p ^ 22 ≤ 9223372036854775807 := by
    rcases prime_cases h with rfl | rfl | rfl | rfl <;> decide
  omega
theorem powW_prime {p : Int} (h : primeB p = true) (n : Nat) (hn : n ≤ 22) : powW p n 1 = p ^ n := by
  have hp := prime_lo h
  rw [powW_fit p (by omega) n 1 (by omega) (by rw [Int.one_mul]; exact pow_le_top h n hn), Int.one_mul]

def ballB (p L T D : Int) : Bool :=
  primeB p && (decide (-6 ≤ L ∧ L ≤ 6) && (decide (0 ≤ D ∧ D ≤ 6) && (if L + D ≤ 0 then T == 0 && D == 0 else decide (0 ≤ T ∧ T < p ^ (L + D).toNat) && (D == 0 || !(Int.tmod T p == 0)))))

def valF (p : Int) : Nat → Int → Nat
  | 0, _ => 0
  | f + 1, n => if n % p = 0 then valF p f (n / p) + 1 else 0
def val (p n : Int) : Nat := valF p n.natAbs n
theorem valF_spec {p : Int} (hp : 2 ≤ p) (f : Nat) : ∀ n : Int, n ≠ 0 → n.natAbs ≤ f → ∃ u, n = p ^ (valF p f n) * u ∧ ¬ p ∣ u := by
  induction f with
  | zero => intro n h0 hf; omega
  | succ f ih =>
    intro n h0 hf
    unfold valF
    by_cases h : n % p = 0
    · rw [if_pos h]
      obtain ⟨q, hq⟩ := Int.dvd_of_emod_eq_zero h
      have hq0 : q ≠ 0 := by intro e; subst e; simp at hq; exact h0 hq
      have hdiv : n / p = q := by rw [hq]; exact Int.mul_ediv_cancel_left q (by omega)
      rw [hdiv]
      have hlt : q.natAbs ≤ f := by
        have : n.natAbs = p.natAbs * q.natAbs := by rw [hq, Int.natAbs_mul]
        have h2 : 2 * q.natAbs ≤ p.natAbs * q.natAbs := Nat.mul_le_mul_right _ (by omega)
        omega
      obtain ⟨u, hu, hn⟩ := ih q hq0 hlt
      refine ⟨u, ?_, hn⟩
      conv => lhs; rw [hq, hu]
      rw [Int.pow_succ', Int.mul_assoc]
    · rw [if_neg h]
      exact ⟨n, by simp, fun hd => h (Int.emod_eq_zero_of_dvd hd)⟩
theorem val_spec {p n : Int} (hp : 2 ≤ p) (h : n ≠ 0) : ∃ u, n = p ^ (val p n) * u ∧ ¬ p ∣ u := valF_spec hp _ n h (Nat.le_refl _)
theorem pow_unique {p u u' : Int} (hp : 2 ≤ p) (hu : ¬ p ∣ u) (hu' : ¬ p ∣ u') : ∀ (v v' : Nat), p ^ v * u = p ^ v' * u' → v = v' := by
  have key : ∀ (v d : Nat) (x x' : Int), ¬ p ∣ x → p ^ v * x = p ^ (v + (d + 1)) * x' → False := by
    intro v d x x' hx h
    rw [Int.pow_add, Int.mul_assoc] at h
    have h2 : x = p ^ (d + 1) * x' := Int.eq_of_mul_eq_mul_left (Int.pow_ne_zero (by omega)) h
    apply hx
    rw [h2, Int.pow_succ', Int.mul_assoc]
    exact Int.dvd_mul_right _ _
  intro v v' h
  rcases Nat.lt_trichotomy v v' with h1 | h1 | h1
  · obtain ⟨d, rfl⟩ : ∃ d, v' = v + (d + 1) := ⟨v' - v - 1, by omega⟩
    exact (key v d u u' hu h).elim
  · exact h1
  · obtain ⟨d, rfl⟩ : ∃ d, v = v' + (d + 1) := ⟨v - v' - 1, by omega⟩
    exact (key v' d u' u hu' h.symm).elim
theorem val_eq {p n u : Int} {v : Nat} (hp : 2 ≤ p) (h : n = p ^ v * u) (hu : ¬ p ∣ u) : val p n = v := by
  have hn : n ≠ 0 := by
    intro e; rw [e] at h
    rcases Int.mul_eq_zero.1 h.symm with h | h
    · exact Int.pow_ne_zero (by omega) h
    · exact hu (by rw [h]; exact Int.dvd_zero p)
  obtain ⟨u', h', hu'⟩ := val_spec hp hn
  exact pow_unique hp hu' hu _ _ (h'.symm.trans h)
theorem val_pow_mul {p e : Int} (j : Nat) (hp : 2 ≤ p) (he : e ≠ 0) : val p (p ^ j * e) = j + val p e := by
  obtain ⟨u, h, hu⟩ := val_spec hp he
  refine val_eq hp (u := u) ?_ hu
  conv => lhs; rw [h]
  rw [Int.pow_add, Int.mul_assoc]
theorem val_dvd {p n : Int} (hp : 2 ≤ p) (h : n ≠ 0) (j : Nat) : p ^ j ∣ n ↔ j ≤ val p n := by
  obtain ⟨u, hu, hn⟩ := val_spec hp h
  constructor
  · rintro ⟨q, hq⟩
    rcases Nat.lt_or_ge (val p n) j with h1 | h1
    · exfalso
      obtain ⟨d, hd⟩ : ∃ d, j = val p n + (d + 1) := ⟨j - val p n - 1, by omega⟩
      have h2 : p ^ (val p n) * u = p ^ (val p n) * (p ^ (d + 1) * q) := by
        have e : n = p ^ (val p n) * (p ^ (d + 1) * q) := by rw [← Int.mul_assoc, ← Int.pow_add, ← hd]; exact hq
        exact hu.symm.trans e
      have h3 := Int.eq_of_mul_eq_mul_left (Int.pow_ne_zero (by omega)) h2
      apply hn
      rw [h3, Int.pow_succ', Int.mul_assoc]
      exact Int.dvd_mul_right _ _
    · exact h1
  · intro h1
    obtain ⟨d, hd⟩ : ∃ d, val p n = j + d := ⟨val p n - j, by omega⟩
    refine ⟨p ^ d * u, ?_⟩
    conv => lhs; rw [hu, hd, Int.pow_add, Int.mul_assoc]
theorem val_le_of_lt {p n : Int} (hp : 2 ≤ p) (h : n ≠ 0) (j : Nat) (hlt : n.natAbs < 2 ^ j) : val p n < j := by
  rcases Nat.lt_or_ge (val p n) j with h1 | h1
  · exact h1
  · exfalso
    obtain ⟨q, hq⟩ := (val_dvd hp h j).2 h1
    have hq0 : q ≠ 0 := by intro e; subst e; simp at hq; exact h hq
    have : n.natAbs = p.natAbs ^ j * q.natAbs := by rw [hq, Int.natAbs_mul, Int.natAbs_pow]
    have h2 : 2 ^ j ≤ p.natAbs ^ j := Nat.pow_le_pow_left (by omega) j
    have h3 : p.natAbs ^ j * 1 ≤ p.natAbs ^ j * q.natAbs := Nat.mul_le_mul_left _ (by omega)
    omega
theorem tdiv_bdv {x M : Int} (g : Int) (hx : -M ≤ x ∧ x ≤ M) : -M ≤ Int.tdiv x g ∧ Int.tdiv x g ≤ M := by
  have := Int.natAbs_tdiv_le_natAbs x g
  omega

theorem pow_13 {p : Int} (hp : primeB p = true) (n : Nat) (h : n ≤ 12) : p ^ n ≤ 13841287201 := by
  have hp2 := prime_lo hp
  have h1 : p ^ n ≤ p ^ 12 := ipow_mono (by omega) h
  have h2 : p ^ 12 ≤ 13841287201 := by rcases prime_cases hp with rfl | rfl | rfl | rfl <;> decide
  omega
def markOf (p T D : Int) : Int := T * p ^ (6 - D).toNat
def ofM (p L X : Int) : Int × Int × Int :=
  let x := X % p ^ (L + 6).toNat
  let dn : Int := if x = 0 then 0 else if (val p x : Int) < 6 then 6 - val p x else 0
  (L, x / p ^ (6 - dn).toNat, dn)
theorem ofM_of {p L X T D : Int} (hp : 2 ≤ p) (hx : X % p ^ (L + 6).toNat = T * p ^ (6 - D).toNat) (hD : 0 ≤ D ∧ D ≤ 6) (hu : D = 0 ∨ ¬ p ∣ T) : ofM p L X = (L, T, D) := by
  unfold ofM
  simp only [hx]
  have hpow : ∀ j : Nat, p ^ j ≠ 0 := fun j => Int.pow_ne_zero (by omega)
  by_cases h0 : T * p ^ (6 - D).toNat = 0
  · have hT : T = 0 := by
      rcases Int.mul_eq_zero.1 h0 with h | h
      · exact h
      · exact absurd h (hpow _)
    have hD0 : D = 0 := by
      rcases hu with h | h
      · exact h
      · exact absurd (by rw [hT]; exact Int.dvd_zero p) h
    subst hT; subst hD0
    simp
  · rw [if_neg h0]
    have hT : T ≠ 0 := by intro e; rw [e] at h0; simp at h0
    have hv : val p (T * p ^ (6 - D).toNat) = (6 - D).toNat + val p T := by rw [Int.mul_comm]; exact val_pow_mul _ hp hT
    have hdn : (if ((val p (T * p ^ (6 - D).toNat) : Nat) : Int) < 6 then 6 - ((val p (T * p ^ (6 - D).toNat) : Nat) : Int) else 0) = D := by
      rw [hv]
      rcases hu with h | h
      · rw [if_neg (by omega)]; exact h.symm
      · have : val p T = 0 := val_eq hp (u := T) (by simp) h
        rw [this]
        by_cases hd : D = 0
        · rw [if_neg (by omega)]; exact hd.symm
        · rw [if_pos (by omega)]; omega
    rw [hdn, Int.mul_ediv_cancel _ (hpow _)]
theorem ofM_mod (p L X : Int) : ofM p L (X % p ^ (L + 6).toNat) = ofM p L X := by unfold ofM; simp only [Int.emod_emod]
theorem ofM_back {p L X : Int} (hp : 2 ≤ p) : (ofM p L X).2.1 * p ^ (6 - (ofM p L X).2.2).toNat = X % p ^ (L + 6).toNat ∧ (0 ≤ (ofM p L X).2.2 ∧ (ofM p L X).2.2 ≤ 6) ∧ ((ofM p L X).2.2 = 0 ∨ ¬ p ∣ (ofM p L X).2.1) := by
  unfold ofM
  simp only
  generalize hx : X % p ^ (L + 6).toNat = x
  by_cases h0 : x = 0
  · rw [if_pos h0]; simp [h0]
  · rw [if_neg h0]
    obtain ⟨u, hu, hn⟩ := val_spec hp h0
    have hpow : ∀ j : Nat, p ^ j ≠ 0 := fun j => Int.pow_ne_zero (by omega)
    by_cases hv : ((val p x : Nat) : Int) < 6
    · rw [if_pos hv]
      have e : (6 - (6 - ((val p x : Nat) : Int))).toNat = val p x := by omega
      rw [e]
      have hq : x / p ^ val p x = u := by
        conv => lhs; lhs; rw [hu]
        exact Int.mul_ediv_cancel_left _ (hpow _)
      rw [hq]
      refine ⟨?_, by omega, .inr hn⟩
      rw [Int.mul_comm]; exact hu.symm
    · rw [if_neg hv]
      refine ⟨?_, by omega, .inl rfl⟩
      have hd : p ^ (6 - (0 : Int)).toNat ∣ x := (val_dvd hp h0 _).2 (by omega)
      exact Int.ediv_mul_cancel hd
theorem ofM_inj {p L X Y : Int} (hp : 2 ≤ p) : ofM p L X = ofM p L Y ↔ X % p ^ (L + 6).toNat = Y % p ^ (L + 6).toNat := by
  constructor
  · intro h
    rw [← (ofM_back (X := X) hp).1, ← (ofM_back (X := Y) hp).1, h]
  · intro h
    rw [← ofM_mod p L X, h, ofM_mod]
theorem ball_parts {p L T D : Int} (h : ballB p L T D = true) : primeB p = true ∧ (-6 ≤ L ∧ L ≤ 6) ∧ (0 ≤ D ∧ D ≤ 6) ∧ (L + D ≤ 0 → T = 0 ∧ D = 0) ∧ (0 < L + D → (0 ≤ T ∧ T < p ^ (L + D).toNat) ∧ (D = 0 ∨ ¬ p ∣ T)) := by
  unfold ballB at h
  simp only [Bool.and_eq_true, decide_eq_true_eq] at h
  obtain ⟨h1, h2, h3, h4⟩ := h
  refine ⟨h1, h2, h3, ?_, ?_⟩
  · intro hn; rw [if_pos hn] at h4; simpa using h4
  · intro hn
    rw [if_neg (by omega)] at h4
    simp only [Bool.and_eq_true, decide_eq_true_eq, Bool.or_eq_true, beq_iff_eq, Bool.not_eq_true', beq_eq_false_iff_ne] at h4
    refine ⟨h4.1, ?_⟩
    rcases h4.2 with h5 | h5
    · exact .inl h5
    · exact .inr (fun hd => h5 (Int.tmod_eq_zero_of_dvd hd))
theorem mark_lt {p L T D : Int} (h : ballB p L T D = true) : 0 ≤ markOf p T D ∧ markOf p T D < p ^ (L + 6).toNat := by
  obtain ⟨hp, hL, hD, h0, h1⟩ := ball_parts h
  have hp2 := prime_lo hp
  unfold markOf
  by_cases hn : L + D ≤ 0
  · rw [(h0 hn).1]
    have := ipow_pos (p := p) (by omega) (L + 6).toNat
    omega
  · obtain ⟨⟨a, b⟩, _⟩ := h1 (by omega)
    have hq := ipow_pos (p := p) (by omega) (6 - D).toNat
    refine ⟨Int.mul_nonneg a (by omega), ?_⟩
    have e : p ^ (L + 6).toNat = p ^ (L + D).toNat * p ^ (6 - D).toNat := by rw [← Int.pow_add]; congr 1; omega
    rw [e]
    exact Int.mul_lt_mul_of_pos_right b (by omega)
theorem mark_mod {p L T D : Int} (h : ballB p L T D = true) : markOf p T D % p ^ (L + 6).toNat = markOf p T D := Int.emod_eq_of_lt (mark_lt h).1 (mark_lt h).2
theorem ball_unit {p L T D : Int} (h : ballB p L T D = true) : D = 0 ∨ ¬ p ∣ T := by
  obtain ⟨_, _, _, h0, h1⟩ := ball_parts h
  by_cases hn : L + D ≤ 0
  · exact .inl (h0 hn).2
  · exact (h1 (by omega)).2
theorem ofM_mark {p L T D : Int} (h : ballB p L T D = true) : ofM p L (markOf p T D) = (L, T, D) :=
  ofM_of (prime_lo (ball_parts h).1) (mark_mod h) (ball_parts h).2.2.1 (ball_unit h)
theorem ofM_ball {p L X : Int} (hp : primeB p = true) (hL : -6 ≤ L ∧ L ≤ 6) : ballB p L (ofM p L X).2.1 (ofM p L X).2.2 = true := by
  have hp2 := prime_lo hp
  obtain ⟨hx, hD, hu⟩ := ofM_back (p := p) (L := L) (X := X) hp2
  have hpos := ipow_pos (p := p) (by omega) (L + 6).toNat
  have hx0 := Int.emod_nonneg X (show p ^ (L + 6).toNat ≠ 0 by omega)
  have hx1 := Int.emod_lt_of_pos X (show 0 < p ^ (L + 6).toNat by omega)
  generalize (ofM p L X).2.1 = T at *
  generalize (ofM p L X).2.2 = D at *
  have hq := ipow_pos (p := p) (by omega) (6 - D).toNat
  rw [← hx] at hx0 hx1
  have hT0 : 0 ≤ T := by
    rcases Int.lt_or_le T 0 with h | h
    · have := Int.mul_neg_of_neg_of_pos h (show 0 < p ^ (6 - D).toNat by omega); omega
    · exact h
  unfold ballB
  rw [hp, decide_eq_true hL, decide_eq_true hD, Bool.true_and, Bool.true_and, Bool.true_and]
  by_cases hn : L + D ≤ 0
  · rw [if_pos hn]
    have hT : T = 0 := by
      rcases Int.lt_or_eq_of_le hT0 with h | h
      · exfalso
        have e : p ^ (6 - D).toNat = p ^ (L + 6).toNat * p ^ (-(L + D)).toNat := by rw [← Int.pow_add]; congr 1; omega
        have h2 := ipow_pos (p := p) (by omega) (-(L + D)).toNat
        have h3 : p ^ (L + 6).toNat * 1 ≤ p ^ (L + 6).toNat * p ^ (-(L + D)).toNat := Int.mul_le_mul_of_nonneg_left (by omega) (by omega)
        have h4 : 1 * p ^ (6 - D).toNat ≤ T * p ^ (6 - D).toNat := Int.mul_le_mul_of_nonneg_right (by omega) (by omega)
        omega
      · exact h.symm
    have hD0 : D = 0 := by
      rcases hu with h | h
      · exact h
      · exact absurd (by rw [hT]; exact Int.dvd_zero p) h
    simp [hT, hD0]
  · rw [if_neg hn]
    have hlt : T < p ^ (L + D).toNat := by
      have e : p ^ (L + 6).toNat = p ^ (L + D).toNat * p ^ (6 - D).toNat := by rw [← Int.pow_add]; congr 1; omega
      rw [e] at hx1
      exact Int.lt_of_mul_lt_mul_right hx1 (by omega)
    rw [decide_eq_true (show 0 ≤ T ∧ T < p ^ (L + D).toNat from ⟨hT0, hlt⟩), Bool.true_and]
    rcases hu with h | h
    · simp [h]
    · have : (Int.tmod T p == 0) = false := beq_eq_false_iff_ne.2 (fun e => h (Int.dvd_of_tmod_eq_zero e))
      simp [this]
theorem ball_num {p L T D : Int} (h : ballB p L T D = true) : 0 ≤ T ∧ T ≤ 13841287201 := by
  obtain ⟨hp, hL, hD, h0, h1⟩ := ball_parts h
  have hp2 := prime_lo hp
  by_cases hn : L + D ≤ 0
  · rw [(h0 hn).1]; omega
  · have := (h1 (by omega)).1
    have := pow_13 hp (L + D).toNat (by omega)
    omega

def holdsB (p L T D L' T' D' : Int) : Bool := decide (L ≤ L') && ((markOf p T' D' - markOf p T D) % p ^ (L + 6).toNat == 0)
theorem holds_iff {p L T D T' D' : Int} (h : ballB p L T D = true) : ofM p L (markOf p T' D') = (L, T, D) ↔ (markOf p T' D' - markOf p T D) % p ^ (L + 6).toNat = 0 := by
  have hp2 := prime_lo (ball_parts h).1
  rw [← ofM_mark h, ofM_inj hp2]
  exact Int.emod_eq_emod_iff_emod_sub_eq_zero

theorem impl_power_l (p N : Int) (hN : N ≤ 9223372036854775807) (n : Nat) : ∀ (acc i : Int), 0 ≤ i → (i + n = N ∨ (n = 0 ∧ N ≤ i)) → Ev (fun k => impl_power.l0 k p acc N i) (powW p n acc) := by
  induction n with
  | zero =>
    intro acc i hi hx
    exact Ev.step (f := fun _ => some acc) (fun k => by simp only [impl_power.l0]; rw [if_neg (by omega)]) (Ev.now _)
  | succ n ih =>
    intro acc i hi hx
    exact Ev.step (f := fun k => impl_power.l0 k p (wrap64 (acc * p)) N (i + 1)) (fun k => by
      simp only [impl_power.l0]; rw [if_pos (by omega), show wrap64 (i + 1) = i + 1 from wid (by omega) (by omega)]) (ih _ (i + 1) (by omega) (by omega))
theorem impl_power_ev (p x : Int) (h : x ≤ 9223372036854775807) : Ev (fun k => impl_power.f k p x) (powW p x.toNat 1) := by
  refine Ev.congr (f := fun k => impl_power.l0 k p 1 x 0) (fun k => rfl) (impl_power_l p x h x.toNat 1 0 (by omega) (by omega))

theorem impl_mark_ev {p L T D : Int} (h : ballB p L T D = true) : Ev (fun k => impl_mark.f k p L T D) (markOf p T D) := by
  obtain ⟨hp, hL, hD, _, _⟩ := ball_parts h
  have hp2 := prime_lo hp
  obtain ⟨m0, m1⟩ := mark_lt h
  have m2 := pow_13 hp (L + 6).toNat (by omega)
  unfold impl_mark.f
  rw [wid (n := 6 - D) (by omega) (by omega)]
  refine Ev.bind (impl_power_ev p _ (by omega)) ?_
  rw [powW_prime hp _ (by omega), show T * p ^ (6 - D).toNat = markOf p T D from rfl, wid (by omega) (by omega)]
  exact Ev.now _

theorem impl_holds_ev {p L T D L' T' D' : Int} (h : ballB p L T D = true) (h' : ballB p L' T' D' = true) : Ev (fun k => impl_holds.f k p L T D L' T' D') (holdsB p L T D L' T' D') := by
  obtain ⟨hp, hL, _⟩ := ball_parts h
  have hp2 := prime_lo hp
  have hL' := (ball_parts h').2.1
  obtain ⟨a0, a1⟩ := mark_lt h
  obtain ⟨b0, b1⟩ := mark_lt h'
  have m2 := pow_13 hp (L + 6).toNat (by omega)
  have m2' := pow_13 hp (L' + 6).toNat (by omega)
  have m1 := ipow_pos (p := p) (by omega) (L + 6).toNat
  unfold impl_holds.f holdsB
  by_cases hle : L ≤ L'
  · simp only [if_pos hle, decide_eq_true hle, Bool.true_and]
    refine Ev.bind (impl_mark_ev h') (Ev.bind (impl_mark_ev h) ?_)
    rw [wid (n := L + 6) (by omega) (by omega)]
    refine Ev.bind (impl_power_ev p _ (by omega)) ?_
    rw [powW_prime hp _ (by omega), wid (n := markOf p T' D' - markOf p T D) (by omega) (by omega)]
    simp only [if_neg (show ¬ p ^ (L + 6).toNat = 0 by omega)]
    rw [show (Int.tmod (markOf p T' D' - markOf p T D) (p ^ (L + 6).toNat) == 0) = ((markOf p T' D' - markOf p T D) % p ^ (L + 6).toNat == 0) from by
      rw [Bool.eq_iff_iff, beq_iff_eq, beq_iff_eq, ← Int.dvd_iff_tmod_eq_zero, ← Int.dvd_iff_emod_eq_zero]]
    exact Ev.now _
  · simp only [if_neg hle, decide_eq_false hle, Bool.false_and]; exact Ev.now _

theorem spec_l01Power_l (p : Int) (n : Nat) : ∀ (x acc : Int), (n : Int) ≤ 9223372036854775807 → (x = n ∨ (n = 0 ∧ x ≤ 0)) → Ev (fun k => spec_l01Power.l0 k p x acc) (powW p n acc) := by
  induction n with
  | zero =>
    intro x acc _ hx
    exact Ev.step (f := fun _ => some acc) (fun k => by simp only [spec_l01Power.l0]; rw [if_neg (by omega)]) (Ev.now _)
  | succ n ih =>
    intro x acc hn hx
    have hx' : x = n + 1 := by omega
    exact Ev.step (f := fun k => spec_l01Power.l0 k p n (wrap64 (acc * p))) (fun k => by
      simp only [spec_l01Power.l0]; rw [if_pos (by omega), show wrap64 (x - 1) = (n : Int) from by rw [hx', wid (by omega) (by omega)]; omega]) (ih n _ (by omega) (.inl rfl))
theorem spec_l01Power_ev (p x : Int) (h : x ≤ 9223372036854775807) : Ev (fun k => spec_l01Power.f k p x) (powW p x.toNat 1) := by
  refine Ev.congr (f := fun k => spec_l01Power.l0 k p x 1) (fun k => rfl) (spec_l01Power_l p x.toNat x 1 (by omega) (by omega))

theorem spec_l01Val_l (p : Int) (hp : 2 ≤ p) (v : Nat) : ∀ (n u acc : Int), n = p ^ v * u → ¬ p ∣ u → n ≠ 0 → -4611686018427387904 ≤ n → n ≤ 4611686018427387904 → 0 ≤ acc → acc + v ≤ 4611686018427387904 → Ev (fun k => spec_l01Val.l0 k p n acc) (acc + v) := by
  induction v with
  | zero =>
    intro n u acc h hu h0 h1 h2 h3 h4
    refine Ev.step (f := fun _ => some acc) (fun k => ?_) (by simp; exact Ev.now _)
    simp only [spec_l01Val.l0]
    rw [if_neg (by omega), if_neg]
    intro e
    rw [h] at e
    exact hu (by simpa using Int.dvd_of_tmod_eq_zero e)
  | succ v ih =>
    intro n u acc h hu h0 h1 h2 h3 h4
    have hn : n = p * (p ^ v * u) := by rw [h, Int.pow_succ', Int.mul_assoc]
    have hm : Int.tmod n p = 0 := by rw [hn]; exact Int.mul_tmod_right p _
    have hd : Int.tdiv n p = p ^ v * u := by rw [hn]; exact Int.mul_tdiv_cancel_left _ (by omega)
    have hb := tdiv_bdv p (show -4611686018427387904 ≤ n ∧ n ≤ 4611686018427387904 from ⟨h1, h2⟩)
    have hne : p ^ v * u ≠ 0 := by intro e; rw [e] at hn; simp at hn; exact h0 hn
    refine Ev.step (f := fun k => spec_l01Val.l0 k p (p ^ v * u) (acc + 1)) (fun k => ?_) ?_
    · simp only [spec_l01Val.l0]
      rw [if_neg (by omega), if_pos hm, hd]
      rw [hd] at hb
      rw [wid (n := p ^ v * u) (by omega) (by omega), wid (n := acc + 1) (by omega) (by omega)]
    · rw [hd] at hb
      have := ih (p ^ v * u) u (acc + 1) rfl hu hne hb.1 hb.2 (by omega) (by omega)
      rw [show acc + ((v + 1 : Nat) : Int) = acc + 1 + (v : Int) from by omega]
      exact this
theorem spec_l01Val_ev {p n : Int} (hp : 2 ≤ p) (h0 : n ≠ 0) (h1 : -4611686018427387904 ≤ n) (h2 : n ≤ 4611686018427387904) : Ev (fun k => spec_l01Val.f k p n) (val p n : Int) := by
  obtain ⟨u, h, hu⟩ := val_spec hp h0
  have hv := val_le_of_lt hp h0 63 (by omega)
  have := spec_l01Val_l p hp (val p n) n u 0 h hu h0 h1 h2 (by omega) (by omega)
  rw [Int.zero_add] at this
  unfold spec_l01Val.f
  exact this

theorem tmod_cast {a m : Int} (h : 0 ≤ a) : Int.tmod a m = a % m := Int.tmod_eq_emod_of_nonneg h
theorem tdiv_cast {a m : Int} (h : 0 ≤ a) : Int.tdiv a m = a / m := Int.tdiv_eq_ediv_of_nonneg h
theorem tmod_lt' {a m : Int} (hm : 0 < m) : -m < Int.tmod a m ∧ Int.tmod a m < m := by
  have h1 := Int.natAbs_tmod a m
  have h2 := Nat.mod_lt a.natAbs (show 0 < m.natAbs by omega)
  omega
theorem emod_mul_emod' (a b m : Int) : a % m * b % m = a * b % m := by rw [Int.mul_emod (a % m) b m, Int.emod_emod, ← Int.mul_emod]
theorem modW {a m : Int} (hm : 1 ≤ m) (hm2 : m ≤ 2305843009213693952) : Int.tmod (wrap64 (Int.tmod a m + m)) m = a % m := by
  obtain ⟨h1, h2⟩ := tmod_lt' (a := a) (show 0 < m by omega)
  rw [wid (by omega) (by omega), tmod_cast (by omega), Int.add_emod_right]
  have e := Int.tmod_add_mul_tdiv a m
  conv => rhs; rw [← e, Int.add_mul_emod_self_left]

theorem spec_l01MulMod_eq {a b m : Int} (hm : 1 ≤ m) (hm2 : m ≤ 100000000000) : spec_l01MulMod.f a b m = some (a * b % m) := by
  unfold spec_l01MulMod.f
  rw [if_neg (by omega), modW hm (by omega), modW hm (by omega)]
  have a0 := Int.emod_nonneg a (show m ≠ 0 by omega)
  have a1 := Int.emod_lt_of_pos a (show 0 < m by omega)
  have b0 := Int.emod_nonneg b (show m ≠ 0 by omega)
  have b1 := Int.emod_lt_of_pos b (show 0 < m by omega)
  have hab : a * b % m = (a % m) * (b % m) % m := Int.mul_emod a b m
  rw [hab]
  generalize a % m = x at *
  generalize b % m = y at *
  rw [tdiv_cast b0, tmod_cast b0]
  have q0 : 0 ≤ y / 1000000 := by omega
  have q1 : y / 1000000 ≤ 100000 := by omega
  have r0 : 0 ≤ y % 1000000 := by omega
  have r1 : y % 1000000 ≤ 1000000 := by omega
  have p0 : 0 ≤ x * (y / 1000000) := Int.mul_nonneg a0 q0
  have p1 : x * (y / 1000000) ≤ 100000000000 * 100000 := Int.mul_le_mul (by omega) q1 q0 (by omega)
  have s0 : 0 ≤ x * (y % 1000000) := Int.mul_nonneg a0 r0
  have s1 : x * (y % 1000000) ≤ 100000000000 * 1000000 := Int.mul_le_mul (by omega) r1 r0 (by omega)
  rw [wid (n := y / 1000000) (by omega) (by omega), wid (n := x * (y / 1000000)) (by omega) (by omega), wid (n := x * (y % 1000000)) (by omega) (by omega), tmod_cast p0, tmod_cast s0]
  have t0 := Int.emod_nonneg (x * (y / 1000000)) (show m ≠ 0 by omega)
  have t1 := Int.emod_lt_of_pos (x * (y / 1000000)) (show 0 < m by omega)
  rw [wid (n := x * (y / 1000000) % m * 1000000) (by omega) (by omega), tmod_cast (a := x * (y / 1000000) % m * 1000000) (by omega)]
  have u0 := Int.emod_nonneg (x * (y / 1000000) % m * 1000000) (show m ≠ 0 by omega)
  have u1 := Int.emod_lt_of_pos (x * (y / 1000000) % m * 1000000) (show 0 < m by omega)
  have v0 := Int.emod_nonneg (x * (y % 1000000)) (show m ≠ 0 by omega)
  have v1 := Int.emod_lt_of_pos (x * (y % 1000000)) (show 0 < m by omega)
  rw [wid (n := x * (y / 1000000) % m * 1000000 % m + x * (y % 1000000) % m) (by omega) (by omega), tmod_cast (a := x * (y / 1000000) % m * 1000000 % m + x * (y % 1000000) % m) (by omega)]
  congr 1
  have e1 : x * (y / 1000000) % m * 1000000 % m = x * (y / 1000000) * 1000000 % m := by rw [emod_mul_emod']
  rw [e1, ← Int.add_emod]
  congr 1
  rw [Int.mul_assoc, ← Int.mul_add]
  congr 1
  omega

theorem spec_l01InvMod_one {m : Int} (hm : 2 ≤ m) (hm2 : m ≤ 100000000000) : Ev (fun k => spec_l01InvMod.f k 1 m) 1 := by
  have h1 : Int.tmod (wrap64 (Int.tmod 1 m + m)) m = 1 := by rw [modW (by omega) (by omega)]; exact Int.emod_eq_of_lt (by omega) (by omega)
  refine Ev.congr (f := fun k => spec_l01InvMod.l0 k m 1 m 1 0) (fun k => by unfold spec_l01InvMod.f; rw [if_neg (by omega), h1]) ?_
  have q0 : Int.tdiv 1 m = 0 := by rw [tdiv_cast (by omega)]; exact Int.ediv_eq_zero_of_lt (by omega) (by omega)
  have q1 : Int.tdiv m 1 = m := Int.tdiv_one m
  have z0 : wrap64 0 = 0 := wid (by omega) (by omega)
  have z1 : wrap64 1 = 1 := wid (by omega) (by omega)
  refine Ev.step (f := fun k => spec_l01InvMod.l0 k m m 1 0 1) (fun k => ?_) ?_
  · simp only [spec_l01InvMod.l0]
    rw [if_neg (by omega), q0, z0, Int.zero_mul, z0, Int.sub_zero, z1, Int.mul_zero, z0, Int.sub_zero, z1]
  refine Ev.step (f := fun k => spec_l01InvMod.l0 k m 1 0 1 (-m)) (fun k => ?_) ?_
  · simp only [spec_l01InvMod.l0]
    rw [if_neg (by omega), q1, wid (n := m) (by omega) (by omega), Int.mul_one, wid (n := m) (by omega) (by omega), Int.sub_self, z0, Int.zero_sub, wid (n := -m) (by omega) (by omega)]
  refine Ev.step (f := fun _ => some 1) (fun k => ?_) (Ev.now _)
  simp only [spec_l01InvMod.l0]
  rw [if_pos trivial, if_neg (by omega), h1]

theorem In_eq (a b c : Int) : spec_l01In.f a b c = some (decide (b ≤ a ∧ a ≤ c)) := by
  unfold spec_l01In.f
  by_cases h : a ≥ b
  · rw [if_pos h]; congr 1; exact decide_eq_decide.2 ⟨fun h2 => ⟨h, h2⟩, fun h2 => h2.2⟩
  · rw [if_neg h]; congr 1; exact (decide_eq_false (fun h2 => h h2.1)).symm

theorem mx_eq (a b : Int) : mx a b = if a < b then b else a := rfl
theorem spec_l01Of_pow {p num L : Int} (D : Nat) (hp : primeB p = true) (hD : D ≤ 6) (h1 : -1152921504606846976 ≤ num) (h2 : num ≤ 1152921504606846976) (hL : -6 ≤ L ∧ L ≤ 6) :
    Ev (fun k => spec_l01Of.f k p num (p ^ D) L) ((ofM p L (num * p ^ (6 - D))).1, (ofM p L (num * p ^ (6 - D))).2.1, (ofM p L (num * p ^ (6 - D))).2.2, true) := by
  have hp2 := prime_lo hp
  have hpow : ∀ j : Nat, p ^ j ≠ 0 := fun j => Int.pow_ne_zero (by omega)
  have hpD := pow_13 hp D (by omega)
  have hpD1 := ipow_pos (p := p) (by omega) D
  unfold spec_l01Of.f
  refine Ev.bindv (In_eq _ _ _) ?_
  rw [decide_eq_true hL]
  simp only [if_true]
  by_cases h0 : num = 0
  · simp only [if_pos h0]
    have e : ofM p L (num * p ^ (6 - D)) = (L, 0, 0) := by
      rw [h0, Int.zero_mul]; exact ofM_of hp2 (by simp) (by omega) (.inl rfl)
    rw [e]; exact Ev.now _
  simp only [if_neg h0]
  have hvD : val p (p ^ D) = D := val_eq hp2 (u := 1) (by simp) (fun h => by have := Int.le_of_dvd (by omega) h; omega)
  have hv60 := val_le_of_lt hp2 h0 61 (by omega)
  refine Ev.bind (spec_l01Val_ev hp2 h0 (by omega) (by omega)) (Ev.bind (spec_l01Val_ev hp2 (hpow D) (by omega) (by omega)) ?_)
  rw [hvD]
  obtain ⟨u, hu, hn⟩ := val_spec hp2 h0
  generalize hv : val p num = v at *
  rw [wid (n := (v : Int) - (D : Int)) (by omega) (by omega), wid (n := (D : Int) - (v : Int)) (by omega) (by omega)]
  have hX : num * p ^ (6 - D) = p ^ (v + (6 - D)) * u := by
    rw [hu, Int.pow_add, Int.mul_assoc, Int.mul_assoc, Int.mul_comm u]
  by_cases hle : L ≤ (v : Int) - (D : Int)
  · simp only [if_pos hle]
    have e : ofM p L (num * p ^ (6 - D)) = (L, 0, 0) := by
      refine ofM_of hp2 ?_ (by omega) (.inl rfl)
      rw [hX, Int.zero_mul, show v + (6 - D) = (L + 6).toNat + (v + (6 - D) - (L + 6).toNat) from by omega, Int.pow_add, Int.mul_assoc]
      exact Int.mul_emod_right _ _
    rw [e]; exact Ev.now _
  simp only [if_neg hle]
  obtain ⟨dn, hdn⟩ : ∃ dn : Nat, (dn : Int) = mx ((D : Int) - (v : Int)) 0 := ⟨D - v, by rw [mx_eq]; split <;> omega⟩
  have hdn2 : (dn : Int) = if (D : Int) - v < 0 then 0 else (D : Int) - v := by rw [hdn, mx_eq]
  rw [← hdn]
  have hdn6 : dn ≤ D := by split at hdn2 <;> omega
  have hmp : 1 ≤ L + dn := by split at hdn2 <;> omega
  have hmp2 : (L + dn).toNat ≤ 12 := by omega
  simp only [if_neg (show ¬ (dn : Int) > 6 by omega)]
  rw [wid (n := L + (dn : Int)) (by omega) (by omega)]
  refine Ev.bind (spec_l01Power_ev p (L + dn) (by omega)) ?_
  rw [powW_prime hp _ (by omega)]
  have hu0 : u ≠ 0 := by intro e; rw [e] at hn; exact hn (Int.dvd_zero p)
  have hpv1 := ipow_pos (p := p) (by omega) v
  have hpv : p ^ v ≤ 1152921504606846976 := by
    have : num.natAbs = (p ^ v).natAbs * u.natAbs := by rw [← Int.natAbs_mul, ← hu]
    have h3 : (p ^ v).natAbs * 1 ≤ (p ^ v).natAbs * u.natAbs := Nat.mul_le_mul_left _ (by omega)
    omega
  have hub : -1152921504606846976 ≤ u ∧ u ≤ 1152921504606846976 := by
    have : num.natAbs = (p ^ v).natAbs * u.natAbs := by rw [← Int.natAbs_mul, ← hu]
    have h3 : 1 * u.natAbs ≤ (p ^ v).natAbs * u.natAbs := Nat.mul_le_mul_right _ (by omega)
    omega
  have pv : powW p v 1 = p ^ v := by rw [powW_fit p (by omega) v 1 (by omega) (by omega), Int.one_mul]
  refine Ev.bind (spec_l01Power_ev p v (by omega)) ?_
  rw [Int.toNat_natCast, pv]
  simp only [if_neg (hpow v)]
  refine Ev.bind (spec_l01Power_ev p D (by omega)) ?_
  rw [Int.toNat_natCast, powW_prime hp D (by omega)]
  simp only [if_neg (hpow D)]
  rw [Int.tdiv_self (hpow D), show wrap64 1 = 1 from wid (by omega) (by omega)]
  have hm1 : p ^ (L + (dn : Int)).toNat ≤ 13841287201 := pow_13 hp _ hmp2
  have hm0 : 2 ≤ p ^ (L + (dn : Int)).toNat := by
    have := ipow_mono (p := p) (by omega) (show 1 ≤ (L + (dn : Int)).toNat by omega)
    rw [Int.pow_one] at this; omega
  refine Ev.bind (spec_l01InvMod_one hm0 (by omega)) ?_
  have hq : Int.tdiv num (p ^ v) = u := by
    conv => lhs; lhs; rw [hu]
    exact Int.mul_tdiv_cancel_left _ (hpow v)
  rw [hq, wid (n := u) (by omega) (by omega)]
  refine Ev.bindv (spec_l01MulMod_eq (by omega) (by omega)) ?_
  rw [Int.mul_one]
  obtain ⟨e, he⟩ : ∃ e : Nat, (e : Int) = mx ((v : Int) - (D : Int)) 0 := ⟨v - D, by rw [mx_eq]; split <;> omega⟩
  have he2 : (e : Int) = if (v : Int) - D < 0 then 0 else (v : Int) - D := by rw [he, mx_eq]
  rw [← he]
  have hev : e ≤ v := by split at he2 <;> omega
  have hpe : p ^ e ≤ p ^ v := ipow_mono (by omega) hev
  refine Ev.bind (spec_l01Power_ev p e (by omega)) ?_
  rw [Int.toNat_natCast, powW_fit p (by omega) e 1 (by omega) (by omega), Int.one_mul]
  refine Ev.bindv (spec_l01MulMod_eq (by omega) (by omega)) ?_
  have hT : u % p ^ (L + (dn : Int)).toNat * p ^ e % p ^ (L + (dn : Int)).toNat = u * p ^ e % p ^ (L + (dn : Int)).toNat := by rw [emod_mul_emod']
  rw [hT]
  have hexp : v + (6 - D) = (6 - (dn : Int)).toNat + e := by split at hdn2 <;> split at he2 <;> omega
  have hexp2 : (L + 6).toNat = (6 - (dn : Int)).toNat + (L + (dn : Int)).toNat := by omega
  have key : ofM p L (num * p ^ (6 - D)) = (L, u * p ^ e % p ^ (L + (dn : Int)).toNat, (dn : Int)) := by
    refine ofM_of hp2 ?_ (by omega) ?_
    · rw [hX, hexp, hexp2, Int.pow_add, Int.pow_add, Int.mul_assoc, Int.mul_emod_mul_of_pos _ _ (Int.lt_of_lt_of_le (by omega) (ipow_pos (p := p) (by omega) _)), Int.mul_comm (p ^ e) u, Int.mul_comm]
    · by_cases hz : dn = 0
      · left; omega
      · right
        have e0 : e = 0 := by split at hdn2 <;> split at he2 <;> omega
        rw [e0, Int.pow_zero, Int.mul_one]
        intro hd
        apply hn
        have hpm : p ∣ p ^ (L + (dn : Int)).toNat := by
          obtain ⟨j, hj⟩ : ∃ j, (L + (dn : Int)).toNat = j + 1 := ⟨(L + (dn : Int)).toNat - 1, by omega⟩
          rw [hj, Int.pow_succ']; exact Int.dvd_mul_right _ _
        have := Int.dvd_add hd (Int.dvd_trans hpm (Int.dvd_mul_right (p ^ (L + (dn : Int)).toNat) (u / p ^ (L + (dn : Int)).toNat)))
        rwa [Int.emod_add_mul_ediv] at this
  rw [key]
  exact Ev.now _
theorem spec_l01Of_ball {p L T D : Int} (K : Int) (h : ballB p L T D = true) (hK : -6 ≤ K ∧ K ≤ 6) : Ev (fun k => (spec_l01Power.f k p D).bind fun t => spec_l01Of.f k p T t K) ((ofM p K (markOf p T D)).1, (ofM p K (markOf p T D)).2.1, (ofM p K (markOf p T D)).2.2, true) := by
  obtain ⟨hp, hL, hD, _⟩ := ball_parts h
  have hT := ball_num h
  refine Ev.bind (spec_l01Power_ev p D (by omega)) ?_
  rw [powW_prime hp _ (by omega)]
  have := spec_l01Of_pow (num := T) D.toNat hp (by omega) (by omega) (by omega) hK
  rw [show 6 - D.toNat = (6 - D).toNat from by omega] at this
  exact this

theorem spec_l01Holds_ev {p L T D L' T' D' : Int} (h : ballB p L T D = true) (h' : ballB p L' T' D' = true) : Ev (fun k => spec_l01Holds.f k p L T D L' T' D') (holdsB p L T D L' T' D') := by
  obtain ⟨hp, hL, hD, _⟩ := ball_parts h
  obtain ⟨_, hL', hD', _⟩ := ball_parts h'
  have hT' := ball_num h'
  unfold spec_l01Holds.f holdsB
  by_cases hle : L ≤ L'
  · simp only [if_neg (show ¬ L > L' by omega), decide_eq_true hle, Bool.true_and]
    refine Ev.bind (spec_l01Power_ev p D' (by omega)) ?_
    rw [powW_prime hp _ (by omega)]
    have := spec_l01Of_pow (num := T') D'.toNat hp (by omega) (by omega) (by omega) hL
    rw [show 6 - D'.toNat = (6 - D').toNat from by omega] at this
    refine Ev.bind this ?_
    simp only [if_true]
    rw [show ((ofM p L (T' * p ^ (6 - D').toNat)).1 == L && ((ofM p L (T' * p ^ (6 - D').toNat)).2.1 == T && (ofM p L (T' * p ^ (6 - D').toNat)).2.2 == D)) = ((markOf p T' D' - markOf p T D) % p ^ (L + 6).toNat == 0) from by
      rw [Bool.eq_iff_iff]
      simp only [Bool.and_eq_true, beq_iff_eq]
      rw [← holds_iff h]
      show _ ↔ ofM p L (T' * p ^ (6 - D').toNat) = (L, T, D)
      constructor
      · rintro ⟨e1, e2, e3⟩; exact Prod.ext e1 (Prod.ext e2 e3)
      · intro e; rw [e]; exact ⟨rfl, rfl, rfl⟩]
    exact Ev.now _
  · simp only [if_pos (show L > L' by omega), decide_eq_false hle, Bool.false_and]; exact Ev.now _

theorem spec_l01Prime_eq (p : Int) : spec_l01Prime.f p = some (primeB p) := by
  unfold spec_l01Prime.f primeB
  by_cases h2 : p = 2
  · simp [h2]
  · by_cases h3 : p = 3
    · simp [h3]
    · by_cases h5 : p = 5
      · simp [h5]
      · rw [if_neg h2, if_neg h3, if_neg h5, beq_eq_false_iff_ne.2 h2, beq_eq_false_iff_ne.2 h3, beq_eq_false_iff_ne.2 h5]; rfl

theorem spec_l01Is_ev (p L T D : Int) : Ev (fun k => spec_l01Is.f k p L T D) (ballB p L T D) := by
  have hno : Ev (fun k => spec_l01Is.j0 k p true L T D) false := Ev.step (f := fun _ => some false) (fun k => by simp only [spec_l01Is.j0, if_true]) (Ev.now _)
  unfold spec_l01Is.f
  refine Ev.bindv (spec_l01Prime_eq p) ?_
  unfold ballB
  cases hp : primeB p with
  | false => simpa using hno
  | true =>
    have hp2 := prime_lo hp
    simp only [if_true, Bool.true_and]
    refine Ev.bindv (In_eq L (-6) 6) ?_
    by_cases hL : -6 ≤ L ∧ L ≤ 6
    · rw [decide_eq_true hL]; simp only [if_true, Bool.true_and]
      refine Ev.bindv (In_eq D 0 6) ?_
      by_cases hD : 0 ≤ D ∧ D ≤ 6
      · rw [decide_eq_true hD]; simp only [Bool.not_true, Bool.true_and]
        have hn := wid (n := L + D) (by omega) (by omega)
        by_cases h0 : L + D ≤ 0
        · rw [if_pos h0]
          refine Ev.step (f := fun _ => some (T == 0 && D == 0)) (fun k => ?_) (Ev.now _)
          simp only [spec_l01Is.j0]
          rw [if_neg (by decide), hn, if_pos h0]
          by_cases hT : T = 0
          · simp [hT]
          · simp [hT]
        · rw [if_neg h0]
          refine Ev.step (f := fun k => (spec_l01Power.f k p (L + D)).bind fun t => (spec_l01In.f T 0 (wrap64 (t - 1))).bind fun t2 => if t2 = true then (if D = 0 then some true else if p = 0 then none else some (Int.tmod T p != 0)) else some false) (fun k => by simp only [spec_l01Is.j0]; rw [if_neg (by decide), hn, if_neg h0]) ?_
          refine Ev.bind (spec_l01Power_ev p (L + D) (by omega)) ?_
          rw [powW_prime hp _ (by omega)]
          have hpp := ipow_pos (p := p) (by omega) (L + D).toNat
          have hpt := pow_le_top hp (L + D).toNat (by omega)
          rw [wid (n := p ^ (L + D).toNat - 1) (by omega) (by omega)]
          refine Ev.bindv (In_eq _ _ _) ?_
          rw [show decide (0 ≤ T ∧ T ≤ p ^ (L + D).toNat - 1) = decide (0 ≤ T ∧ T < p ^ (L + D).toNat) from decide_eq_decide.2 (by omega)]
          cases decide (0 ≤ T ∧ T < p ^ (L + D).toNat) with
          | false => simp only [Bool.false_eq_true, if_false, Bool.false_and]; exact Ev.now _
          | true =>
            simp only [if_true, Bool.true_and]
            by_cases hd : D = 0
            · simp only [hd, if_true]; simp; exact Ev.now _
            · rw [if_neg hd, if_neg (by omega), show (D == 0) = false from beq_eq_false_iff_ne.2 hd, Bool.false_or]
              exact Ev.now _
      · rw [decide_eq_false hD]; simpa using hno
    · rw [decide_eq_false hL]; simpa using hno

theorem rd_nat (l : List Int) (j : Nat) (h : j < l.length) : rd l (j : Int) = l[j] := by
  unfold rd; rw [Int.toNat_natCast, List.getD_eq_getElem?_getD, List.getElem?_eq_getElem h]; rfl
theorem all_ev {β : Type} (g : Nat → Int → Option β) (n : Nat) (p : Nat → Bool) (yes no : β)
    (hstep : ∀ (i : Nat), i < n → p i = true → Ev (fun k => g k ((i : Int) + 1)) yes → Ev (fun k => g k i) yes)
    (hstepno : ∀ (i : Nat), i < n → p i = true → Ev (fun k => g k ((i : Int) + 1)) no → Ev (fun k => g k i) no)
    (hno : ∀ (i : Nat), i < n → p i = false → Ev (fun k => g k i) no)
    (hend : Ev (fun k => g k n) yes) : Ev (fun k => g k 0) (if (List.range n).all p then yes else no) := by
  have key : ∀ (d i : Nat), i + d = n → Ev (fun k => g k i) (if (List.range' i d).all p then yes else no) := by
    intro d
    induction d with
    | zero => intro i hi; have : i = n := by omega
              subst this; simpa using hend
    | succ d ih =>
      intro i hi
      have h := ih (i + 1) (by omega)
      rw [List.range'_succ, List.all_cons]
      cases e : p i with
      | false => simpa using hno i (by omega) e
      | true =>
        rw [Bool.true_and]
        have e1 : (((i + 1 : Nat) : Int)) = (i : Int) + 1 := by omega
        rw [e1] at h
        cases e2 : (List.range' (i + 1) d).all p with
        | true => rw [e2] at h; exact hstep i (by omega) e h
        | false => rw [e2] at h; exact hstepno i (by omega) e h
  have := key n 0 (by omega)
  rw [← List.range_eq_range'] at this
  exact this
theorem all_range_rd (l : List Int) (q : Int → Bool) : (List.range l.length).all (fun i => q (rd l (i : Int))) = l.all q := by
  rw [Bool.eq_iff_iff]
  simp only [List.all_eq_true, List.mem_range]
  constructor
  · intro h x hx
    obtain ⟨i, hi, rfl⟩ := List.mem_iff_getElem.1 hx
    have := h i hi
    rwa [rd_nat l i hi] at this
  · intro h i hi
    rw [rd_nat l i hi]
    exact h _ (List.getElem_mem hi)
theorem all_range_getD {α : Type} (l : List α) (d : α) (q : α → Bool) : (List.range l.length).all (fun i => q (l.getD i d)) = l.all q := by
  rw [Bool.eq_iff_iff]
  simp only [List.all_eq_true, List.mem_range]
  constructor
  · intro h x hx
    obtain ⟨i, hi, rfl⟩ := List.mem_iff_getElem.1 hx
    have := h i hi
    rwa [List.getD_eq_getElem?_getD, List.getElem?_eq_getElem hi] at this
  · intro h i hi
    rw [List.getD_eq_getElem?_getD, List.getElem?_eq_getElem hi]
    exact h _ (List.getElem_mem hi)
theorem all_ev' {β : Type} (g : Nat → Int → Option β) (n : Nat) (p : Nat → Bool) (yes no : β)
    (hstep : ∀ (i : Nat) (r : β), i < n → p i = true → Ev (fun k => g k ((i : Int) + 1)) r → Ev (fun k => g k i) r)
    (hno : ∀ (i : Nat), i < n → p i = false → Ev (fun k => g k i) no)
    (hend : Ev (fun k => g k n) yes) : Ev (fun k => g k 0) (if (List.range n).all p then yes else no) :=
  all_ev g n p yes no (fun i hi hp h => hstep i yes hi hp h) (fun i hi hp h => hstep i no hi hp h) hno hend
theorem ite_tf (b : Bool) : (if b then true else false) = b := by cases b <;> rfl
theorem copy_ev' {α : Type} (g : Nat → List α → Int → Option (List α)) (src : List α)
    (hstep : ∀ (dst : List α) (i : Nat) (h : i < src.length) (r : List α), dst.length = src.length → Ev (fun k => g k (dst.set i src[i]) ((i : Int) + 1)) r → Ev (fun k => g k dst i) r)
    (hend : ∀ (dst : List α), dst.length = src.length → Ev (fun k => g k dst src.length) dst) (dst : List α) (hd : dst.length = src.length) : Ev (fun k => g k dst 0) src := by
  have key : ∀ (n i : Nat) (dst : List α), i + n = src.length → dst.length = src.length → (∀ (j : Nat) (h : j < src.length), j < i → dst[j]? = some src[j]) → Ev (fun k => g k dst i) src := by
    intro n
    induction n with
    | zero =>
      intro i dst hi hl hp
      have e : dst = src := by
        refine List.ext_getElem? fun j => ?_
        by_cases h : j < src.length
        · rw [hp j h (by omega), List.getElem?_eq_getElem h]
        · rw [List.getElem?_eq_none (by omega), List.getElem?_eq_none (by omega)]
      have hi2 : i = src.length := by omega
      subst hi2
      have := hend dst hl
      rwa [e] at this ⊢
    | succ n ih =>
      intro i dst hi hl hp
      refine hstep dst i (by omega) src hl ?_
      have := ih (i + 1) (dst.set i (src[i]'(by omega))) (by omega) (by rw [List.length_set]; exact hl) (fun j h hj => by
        by_cases e : j = i
        · subst e; rw [List.getElem?_set_self (by omega)]
        · rw [List.getElem?_set_ne (by omega)]; exact hp j h (by omega))
      exact this
  exact key src.length 0 dst (by omega) hd (fun j h hj => by omega)

def codeB (p : Int) (l : List S31) : Bool := primeB p && l.all (fun b => ballB p b.f0 b.f1 b.f2)
theorem spec_l01Code_ev (p : Int) (l : List S31) (hl : l.length ≤ 4611686018427387904) : Ev (fun k => spec_l01Code.f k p l) (if codeB p l then 0 else 1) := by
  unfold spec_l01Code.f codeB
  refine Ev.bindv (spec_l01Prime_eq p) ?_
  cases hp : primeB p with
  | false => simp; exact Ev.now _
  | true =>
    simp only [if_true, Bool.true_and]
    rw [← all_range_getD l z31]
    refine all_ev' (fun k i => spec_l01Code.l0 k p l i) l.length (fun i => ballB p (l.getD i z31).f0 (l.getD i z31).f1 (l.getD i z31).f2) 0 1 ?_ ?_ ?_
    · intro i r hi hb hr
      refine Ev.step (f := fun k => (spec_l01Is.f k p (l.getD i z31).f0 (l.getD i z31).f1 (l.getD i z31).f2).bind fun t => if t = true then spec_l01Code.l0 k p l ((i : Int) + 1) else some 1) (fun k => ?_) ?_
      · simp only [spec_l01Code.l0]
        rw [if_pos (by omega), if_pos (by omega), wid (by omega) (by omega)]; rfl
      · refine Ev.bind (spec_l01Is_ev _ _ _ _) ?_
        rw [hb]; simpa using hr
    · intro i hi hb
      refine Ev.step (f := fun k => (spec_l01Is.f k p (l.getD i z31).f0 (l.getD i z31).f1 (l.getD i z31).f2).bind fun t => if t = true then spec_l01Code.l0 k p l ((i : Int) + 1) else some 1) (fun k => ?_) ?_
      · simp only [spec_l01Code.l0]
        rw [if_pos (by omega), if_pos (by omega), wid (by omega) (by omega)]; rfl
      · refine Ev.bind (spec_l01Is_ev _ _ _ _) ?_
        rw [hb]; simp; exact Ev.now _
    · exact Ev.step (f := fun _ => some 0) (fun k => by simp only [spec_l01Code.l0]; rw [if_neg (by omega)]) (Ev.now _)

theorem impl_within_ev (m : Int) (l : List Int) (hm : 0 ≤ m) (hm2 : m ≤ 4611686018427387904) (hl : l.length ≤ 4611686018427387904) : Ev (fun k => impl_within.f k m l) (l.all (fun x => decide (-m ≤ x ∧ x ≤ m))) := by
  unfold impl_within.f
  rw [← ite_tf (l.all _), ← all_range_rd]
  have w : wrap64 (-m) = -m := wid (by omega) (by omega)
  refine all_ev' (fun k i => impl_within.l0 k m l l.length i) l.length (fun i => decide (-m ≤ rd l (i : Int) ∧ rd l (i : Int) ≤ m)) true false ?_ ?_ ?_
  · intro i r hi hp hr
    have hp := of_decide_eq_true hp
    refine Ev.step (f := fun k => impl_within.l0 k m l l.length ((i : Int) + 1)) (fun k => ?_) hr
    simp only [impl_within.l0]
    rw [if_pos (by omega), if_pos (by omega), if_pos (by omega), w, if_neg (by omega), if_neg (by omega), wid (by omega) (by omega)]
  · intro i hi hp
    have hp := of_decide_eq_false hp
    refine Ev.step (f := fun _ => some false) (fun k => ?_) (Ev.now _)
    simp only [impl_within.l0]
    rw [if_pos (by omega), if_pos (by omega), if_pos (by omega), w]
    by_cases h : rd l (i : Int) < -m
    · rw [if_pos h]
    · rw [if_neg h, if_pos (by omega)]
  · exact Ev.step (f := fun _ => some true) (fun k => by simp only [impl_within.l0]; rw [if_neg (by omega)]) (Ev.now _)

theorem impl_isPrime_eq (p : Int) : impl_isPrime.f p = some (primeB p) := by
  unfold impl_isPrime.f primeB
  by_cases h2 : p = 2
  · simp [h2]
  · by_cases h3 : p = 3
    · simp [h3]
    · by_cases h5 : p = 5
      · simp [h5]
      · rw [if_neg h2, if_neg h3, if_neg h5, beq_eq_false_iff_ne.2 h2, beq_eq_false_iff_ne.2 h3, beq_eq_false_iff_ne.2 h5]; rfl

theorem impl_isLevel_eq (L : Int) : impl_isLevel.f L = some (decide (-6 ≤ L ∧ L ≤ 6)) := by
  unfold impl_isLevel.f
  by_cases h : L ≥ -6
  · rw [if_pos h]; congr 1; exact decide_eq_decide.2 ⟨fun h2 => ⟨h, h2⟩, fun h2 => h2.2⟩
  · rw [if_neg h]; congr 1; exact (decide_eq_false (fun h2 => h h2.1)).symm

theorem impl_IsBall_ev (p L T D : Int) : Ev (fun k => impl_IsBall.f k p L T D) (ballB p L T D) := by
  have hno : Ev (fun k => impl_IsBall.j0 k p true L T D) false := Ev.step (f := fun _ => some false) (fun k => by simp only [impl_IsBall.j0, if_true]) (Ev.now _)
  unfold impl_IsBall.f
  refine Ev.bindv (impl_isPrime_eq p) ?_
  unfold ballB
  cases hp : primeB p with
  | false => simpa using hno
  | true =>
    have hp2 := prime_lo hp
    simp only [if_true, Bool.true_and]
    refine Ev.bindv (impl_isLevel_eq L) ?_
    by_cases hL : -6 ≤ L ∧ L ≤ 6
    · rw [decide_eq_true hL]; simp only [if_true, Bool.true_and]
      by_cases hD0 : D < 0
      · rw [decide_eq_false (show ¬ (0 ≤ D ∧ D ≤ 6) by omega)]; simp only [if_pos hD0, Bool.false_and]; exact hno
      simp only [if_neg hD0]
      by_cases hD : 0 ≤ D ∧ D ≤ 6
      · rw [decide_eq_true hD, decide_eq_false (show ¬ D > 6 by omega)]; simp only [Bool.true_and]
        have hn := wid (n := L + D) (by omega) (by omega)
        by_cases h0 : L + D ≤ 0
        · rw [if_pos h0]
          refine Ev.step (f := fun _ => some (T == 0 && D == 0)) (fun k => ?_) (Ev.now _)
          simp only [impl_IsBall.j0]
          rw [if_neg (by decide), hn, if_pos h0]
          by_cases hT : T = 0
          · simp [hT]
          · simp [hT]
        · rw [if_neg h0]
          by_cases hT0 : T ≥ 0
          · refine Ev.step (f := fun k => (impl_power.f k p (L + D)).bind fun t => if T < t then (if D = 0 then some true else if p = 0 then none else some (Int.tmod T p != 0)) else some false) (fun k => by simp only [impl_IsBall.j0]; rw [if_neg (by decide), hn, if_neg h0, if_pos hT0]) ?_
            refine Ev.bind (impl_power_ev p (L + D) (by omega)) ?_
            rw [powW_prime hp _ (by omega)]
            by_cases hT1 : T < p ^ (L + D).toNat
            · rw [if_pos hT1, decide_eq_true (show 0 ≤ T ∧ T < p ^ (L + D).toNat from ⟨hT0, hT1⟩), Bool.true_and]
              by_cases hd : D = 0
              · simp only [hd, if_true]; simp; exact Ev.now _
              · rw [if_neg hd, if_neg (by omega), show (D == 0) = false from beq_eq_false_iff_ne.2 hd, Bool.false_or]
                exact Ev.now _
            · rw [if_neg hT1, decide_eq_false (show ¬ (0 ≤ T ∧ T < p ^ (L + D).toNat) from fun h => hT1 h.2), Bool.false_and]
              exact Ev.now _
          · rw [decide_eq_false (show ¬ (0 ≤ T ∧ T < p ^ (L + D).toNat) from fun h => hT0 h.1), Bool.false_and]
            refine Ev.step (f := fun _ => some false) (fun k => ?_) (Ev.now _)
            simp only [impl_IsBall.j0]
            rw [if_neg (by decide), hn, if_neg h0, if_neg hT0]
      · rw [decide_eq_false hD, decide_eq_true (show D > 6 by omega)]; simpa using hno
    · rw [decide_eq_false hL]; simpa using hno

theorem all_evp {β : Type} (g : Nat → Nat → Option β) (n : Nat) (p : Nat → Bool) (yes no : β)
    (hstep : ∀ (i : Nat) (r : β), i < n → (∀ j, j < i → p j = true) → p i = true → Ev (fun k => g k (i + 1)) r → Ev (fun k => g k i) r)
    (hno : ∀ (i : Nat), i < n → (∀ j, j < i → p j = true) → p i = false → Ev (fun k => g k i) no)
    (hend : (∀ j, j < n → p j = true) → Ev (fun k => g k n) yes) : Ev (fun k => g k 0) (if (List.range n).all p then yes else no) := by
  have key : ∀ (d i : Nat), i + d = n → (∀ j, j < i → p j = true) → Ev (fun k => g k i) (if (List.range n).all p then yes else no) := by
    intro d
    induction d with
    | zero =>
      intro i hi hj
      obtain rfl : i = n := by omega
      rw [if_pos (List.all_eq_true.2 fun x hx => hj x (List.mem_range.1 hx))]
      exact hend hj
    | succ d ih =>
      intro i hi hj
      cases hp : p i with
      | true => exact hstep i _ (by omega) hj hp (ih (i + 1) (by omega) (fun j h => by rcases Nat.lt_or_ge j i with h2 | h2; exact hj j h2; rw [show j = i by omega]; exact hp))
      | false =>
        rw [if_neg (fun h => by have := List.all_eq_true.1 h i (List.mem_range.2 (by omega)); rw [hp] at this; cases this)]
        exact hno i (by omega) hj hp
  exact key n 0 (by omega) (fun j h => absurd h (by omega))
theorem rdP (l : List S72) (i : Nat) : rd_T72 l (i : Int) = l.getD i z72 := rfl
def pB (p : Int) (x : S72) : Bool := ballB p x.f0.f0 x.f0.f1 x.f0.f2
def pM (p : Int) (x : S72) : Int := markOf p x.f0.f1 x.f0.f2
def wB (x : S72) : Bool := decide (-1000000 ≤ x.f1 ∧ x.f1 ≤ 1000000)
def hB (p : Int) (x y : S72) : Bool := holdsB p x.f0.f0 x.f0.f1 x.f0.f2 y.f0.f0 y.f0.f1 y.f0.f2
def gB (p rL rT rD : Int) (l : List S72) (i : Nat) : Bool :=
  pB p (l.getD i z72) && (holdsB p rL rT rD (l.getD i z72).f0.f0 (l.getD i z72).f0.f1 (l.getD i z72).f0.f2 && (decide (i = 0) || decide (pM p (l.getD (i - 1) z72) < pM p (l.getD i z72))))
def apB (p : Int) (l : List S72) (i : Nat) : Bool := (List.range i).all fun j => !hB p (l.getD i z72) (l.getD j z72) && !hB p (l.getD j z72) (l.getD i z72)
def sumP (p e : Int) (l : List S72) : Nat → Int
  | 0 => 0
  | i + 1 => sumP p e l i + p ^ (e - (l.getD i z72).f0.f0).toNat
def measB (p rL rT rD : Int) (l : List S72) : Bool :=
  ballB p rL rT rD && (decide (1 ≤ l.length ∧ l.length ≤ 64) && (((List.range l.length).all (fun i => gB p rL rT rD l i && apB p l i) && sumP p (12 + rL) l l.length == p ^ 12) && l.all wB))
theorem holds_lv {p L T D L' T' D' : Int} (h : holdsB p L T D L' T' D' = true) : L ≤ L' := by
  unfold holdsB at h
  rw [Bool.and_eq_true, decide_eq_true_eq] at h
  exact h.1
section
variable {p rL rT rD : Int} {l : List S72}
theorem gB_lv {i : Nat} (h : gB p rL rT rD l i = true) : rL ≤ (l.getD i z72).f0.f0 ∧ (l.getD i z72).f0.f0 ≤ 6 ∧ pB p (l.getD i z72) = true := by
  unfold gB at h
  simp only [Bool.and_eq_true] at h
  obtain ⟨h1, h2, _⟩ := h
  have := (ball_parts h1).2.1
  exact ⟨holds_lv h2, this.2, h1⟩
theorem sumP_bd {e : Int} (hp : primeB p = true) (n : Nat) (h : ∀ j, j < n → rL ≤ (l.getD j z72).f0.f0) (he : e - rL ≤ 12) : 0 ≤ sumP p e l n ∧ sumP p e l n ≤ (n : Int) * 13841287201 := by
  induction n with
  | zero => simp [sumP]
  | succ n ih =>
    obtain ⟨i1, i2⟩ := ih (fun j hj => h j (by omega))
    have h1 := pow_13 hp (e - (l.getD n z72).f0.f0).toNat (by have := h n (by omega); omega)
    have h2 := ipow_pos (show 1 ≤ p by have := prime_lo hp; omega) (e - (l.getD n z72).f0.f0).toNat
    simp only [sumP]
    omega
theorem impl_apart_ev {x y : S72} (hx : pB p x = true) (hy : pB p y = true) : Ev (fun k => impl_apart.f k p x.f0.f0 x.f0.f1 x.f0.f2 y.f0.f0 y.f0.f1 y.f0.f2) (!hB p x y && !hB p y x) := by
  unfold impl_apart.f
  refine Ev.bind (impl_holds_ev hx hy) ?_
  show Ev _ (!holdsB p x.f0.f0 x.f0.f1 x.f0.f2 y.f0.f0 y.f0.f1 y.f0.f2 && !hB p y x)
  cases holdsB p x.f0.f0 x.f0.f1 x.f0.f2 y.f0.f0 y.f0.f1 y.f0.f2 with
  | true => simp only [if_true, Bool.not_true, Bool.false_and]; exact Ev.now _
  | false =>
    simp only [Bool.false_eq_true, if_false, Bool.not_false, Bool.true_and]
    exact Ev.bind (impl_holds_ev hy hx) (Ev.now _)
theorem impl_isWeight_ev (w : Int) : Ev (fun k => impl_isWeight.f k [w]) (decide (-1000000 ≤ w ∧ w ≤ 1000000)) := by
  unfold impl_isWeight.f
  refine Ev.bind (impl_within_ev 1000000 [w] (by omega) (by omega) (by simp)) ?_
  simp only [List.all_cons, List.all_nil, Bool.and_true]
  exact Ev.now _
theorem spec_l08Key_ev {L T D : Int} (h : ballB p L T D = true) : Ev (fun k => spec_l08Key.f k p L T D) (markOf p T D) := by
  obtain ⟨hp, hL, hD, _, _⟩ := ball_parts h
  obtain ⟨m0, m1⟩ := mark_lt h
  have m2 := pow_13 hp (L + 6).toNat (by omega)
  unfold spec_l08Key.f
  rw [wid (n := 6 - D) (by omega) (by omega)]
  refine Ev.bind (spec_l01Power_ev p _ (by omega)) ?_
  rw [powW_prime hp _ (by omega), show T * p ^ (6 - D).toNat = markOf p T D from rfl, wid (by omega) (by omega)]
  exact Ev.now _
theorem getD_take {i j : Nat} (hj : j < i) : (l.take i).getD j z72 = l.getD j z72 := by
  rw [List.getD_eq_getElem?_getD, List.getD_eq_getElem?_getD, List.getElem?_take_of_lt hj]
theorem impl_part_l1 (hl : l.length ≤ 64) (i : Nat) (hi : i < l.length) (hr : ballB p rL rT rD = true) (hj : ∀ j, j < i → gB p rL rT rD l j = true) (hg : gB p rL rT rD l i = true) (r : Bool)
    (hn : apB p l i = true → Ev (fun k => impl_isPartition.l0 k p l (sumP p (12 + rL) l (i + 1)) l l.length ((i + 1 : Nat) : Int) rL rT rD) r) (hf : apB p l i = false → r = false) :
    Ev (fun k => impl_isPartition.l1 k p l (sumP p (12 + rL) l i) l l.length i (l.take i) i (0 : Nat) rL rT rD (l.getD i z72).f0.f0 (l.getD i z72).f0.f1 (l.getD i z72).f0.f2 (l.getD i z72).f1) r := by
  have hlen : (l.take i).length = i := by rw [List.length_take]; omega
  obtain ⟨g1, g2, g3⟩ := gB_lv hg
  have hp := (ball_parts hr).1
  have hrl := (ball_parts hr).2.1
  have hall : apB p l i = true ∨ apB p l i = false := by cases apB p l i <;> simp
  have := all_evp (fun k j => impl_isPartition.l1 k p l (sumP p (12 + rL) l i) l l.length i (l.take i) i (j : Int) rL rT rD (l.getD i z72).f0.f0 (l.getD i z72).f0.f1 (l.getD i z72).f0.f2 (l.getD i z72).f1) i (fun j => !hB p (l.getD i z72) (l.getD j z72) && !hB p (l.getD j z72) (l.getD i z72)) r false (fun j r' hji hjj hpj hr' => by
      refine Ev.up ?_
      simp only [impl_isPartition.l1, rdP, hlen, getD_take hji]
      simp only [if_pos (show (j : Int) < (i : Int) by omega), if_pos (show (0 : Int) ≤ (j : Int) by omega)]
      refine Ev.bind (impl_apart_ev g3 (gB_lv (hj j hji)).2.2) ?_
      rw [hpj, wid (n := (j : Int) + 1) (by omega) (by omega)]
      simp only [if_true]
      exact hr') (fun j hji hjj hpj => by
      refine Ev.up ?_
      simp only [impl_isPartition.l1, rdP, hlen, getD_take hji]
      simp only [if_pos (show (j : Int) < (i : Int) by omega), if_pos (show (0 : Int) ≤ (j : Int) by omega)]
      refine Ev.bind (impl_apart_ev g3 (gB_lv (hj j hji)).2.2) ?_
      rw [hpj]
      simp only [Bool.false_eq_true, if_false]
      exact Ev.now _) (fun hjj => by
      refine Ev.up ?_
      simp only [impl_isPartition.l1]
      simp only [if_neg (show ¬ (i : Int) < (i : Int) by omega)]
      rw [wid (n := 12 - (l.getD i z72).f0.f0) (by omega) (by omega), wid (n := 12 - (l.getD i z72).f0.f0 + rL) (by omega) (by omega)]
      refine Ev.bind (impl_power_ev p _ (by omega)) ?_
      have hb := sumP_bd (l := l) hp (i + 1) (e := 12 + rL) (fun j hj2 => (gB_lv (show gB p rL rT rD l j = true from by rcases Nat.lt_or_ge j i with h2 | h2; exact hj j h2; rw [show j = i by omega]; exact hg)).1) (by omega)
      have he : 12 - (l.getD i z72).f0.f0 + rL = 12 + rL - (l.getD i z72).f0.f0 := by omega
      rw [powW_prime hp _ (by omega), he, show sumP p (12 + rL) l i + p ^ (12 + rL - (l.getD i z72).f0.f0).toNat = sumP p (12 + rL) l (i + 1) from rfl, wid (n := sumP p (12 + rL) l (i + 1)) (by omega) (by omega), wid (n := (i : Int) + 1) (by omega) (by omega)]
      exact hn (by unfold apB; exact List.all_eq_true.2 fun x hx => hjj x (List.mem_range.1 hx)))
  rcases hall with h | h
  · rw [show (List.range i).all (fun j => !hB p (l.getD i z72) (l.getD j z72) && !hB p (l.getD j z72) (l.getD i z72)) = true from h, if_pos rfl] at this
    exact this
  · rw [show (List.range i).all (fun j => !hB p (l.getD i z72) (l.getD j z72) && !hB p (l.getD j z72) (l.getD i z72)) = false from h] at this
    rw [hf h]
    simpa using this
theorem impl_isPartition_ev (hr : ballB p rL rT rD = true) (hl0 : l.length ≤ 4611686018427387904) : Ev (fun k => impl_isPartition.f k p rL rT rD l) (decide (1 ≤ l.length ∧ l.length ≤ 64) && ((List.range l.length).all (fun i => gB p rL rT rD l i && apB p l i) && sumP p (12 + rL) l l.length == p ^ 12)) := by
  have hp := (ball_parts hr).1
  have hrl := (ball_parts hr).2.1
  have hno : Ev (fun k => impl_isPartition.j0 k p l true rL rT rD) false := by
    refine Ev.up ?_
    simp only [impl_isPartition.j0, if_true]
    exact Ev.now _
  unfold impl_isPartition.f
  by_cases h1 : (l.length : Int) < 1
  · simp only [if_pos h1]
    rw [decide_eq_false (by omega), Bool.false_and]
    exact hno
  simp only [if_neg h1]
  by_cases h2 : (l.length : Int) > 64
  · rw [decide_eq_true h2, decide_eq_false (by omega), Bool.false_and]
    exact hno
  have hl : l.length ≤ 64 := by omega
  rw [decide_eq_false h2, decide_eq_true (show 1 ≤ l.length ∧ l.length ≤ 64 by omega), Bool.true_and]
  refine Ev.up ?_
  simp only [impl_isPartition.j0, Bool.false_eq_true, if_false]
  have := all_evp (fun k i => impl_isPartition.l0 k p l (sumP p (12 + rL) l i) l l.length (i : Int) rL rT rD) l.length (fun i => gB p rL rT rD l i && apB p l i) (sumP p (12 + rL) l l.length == p ^ 12) false ?_ ?_ ?_
  · rw [show ∀ (a b : Bool), (a && b) = if a = true then b else false from fun a b => by cases a <;> simp]
    exact this
  · intro i r hi hj hpi hr'
    simp only [Bool.and_eq_true] at hpi hj
    have hg := hpi.1
    unfold gB at hg
    simp only [Bool.and_eq_true, Bool.or_eq_true, decide_eq_true_eq] at hg
    obtain ⟨q1, q2, q3⟩ := hg
    have fin : Ev (fun k => impl_isPartition.j2 k p l (sumP p (12 + rL) l i) i l l.length i false rL rT rD (l.getD i z72).f0.f0 (l.getD i z72).f0.f1 (l.getD i z72).f0.f2 (l.getD i z72).f1) r := by
      refine Ev.up ?_
      simp only [impl_isPartition.j2, Bool.false_eq_true, if_false, Option.bind_some, Int.toNat_natCast]
      simp only [if_pos (show (0 : Int) ≤ (i : Int) by omega), if_pos (show (i : Int) ≤ (l.length : Int) by omega)]
      have hlen : (l.take i).length = i := by rw [List.length_take]; omega
      rw [hlen]
      exact impl_part_l1 hl i hi hr (fun j hj2 => (hj j hj2).1) hpi.1 r (fun _ => hr') (fun h => by rw [hpi.2] at h; cases h)
    refine Ev.up ?_
    simp only [impl_isPartition.l0, rdP]
    simp only [if_pos (show (i : Int) < (l.length : Int) by omega), if_pos (show (0 : Int) ≤ (i : Int) by omega)]
    refine Ev.bind (impl_IsBall_ev _ _ _ _) ?_
    rw [show ballB p (l.getD i z72).f0.f0 (l.getD i z72).f0.f1 (l.getD i z72).f0.f2 = true from q1]
    simp only [if_true]
    refine Ev.bind (impl_holds_ev hr q1) ?_
    rw [q2]
    simp only [if_true]
    by_cases h0 : i = 0
    · simp only [if_neg (show ¬ (i : Int) > 0 by omega)]
      exact fin
    · have hq := q3.resolve_left h0
      have hprev := (gB_lv (hj (i - 1) (by omega)).1).2.2
      simp only [if_pos (show (i : Int) > 0 by omega)]
      refine Ev.bind (impl_mark_ev q1) ?_
      rw [wid (n := (i : Int) - 1) (by omega) (by omega), show (i : Int) - 1 = ((i - 1 : Nat) : Int) by omega]
      simp only [rdP, if_pos (show (0 : Int) ≤ ((i - 1 : Nat) : Int) by omega), if_pos (show ((i - 1 : Nat) : Int) < (l.length : Int) by omega)]
      refine Ev.bind (impl_mark_ev hprev) ?_
      rw [decide_eq_false (by unfold pM at hq; omega)]
      exact fin
  · intro i hi hj hpi
    simp only [Bool.and_eq_true] at hj
    have stop : Ev (fun k => impl_isPartition.j2 k p l (sumP p (12 + rL) l i) i l l.length i true rL rT rD (l.getD i z72).f0.f0 (l.getD i z72).f0.f1 (l.getD i z72).f0.f2 (l.getD i z72).f1) false := by
      refine Ev.up ?_
      simp only [impl_isPartition.j2, if_true]
      exact Ev.now _
    have fin (hg : gB p rL rT rD l i = true) : Ev (fun k => impl_isPartition.j2 k p l (sumP p (12 + rL) l i) i l l.length i false rL rT rD (l.getD i z72).f0.f0 (l.getD i z72).f0.f1 (l.getD i z72).f0.f2 (l.getD i z72).f1) false := by
      refine Ev.up ?_
      simp only [impl_isPartition.j2, Bool.false_eq_true, if_false, Option.bind_some, Int.toNat_natCast]
      simp only [if_pos (show (0 : Int) ≤ (i : Int) by omega), if_pos (show (i : Int) ≤ (l.length : Int) by omega)]
      have hlen : (l.take i).length = i := by rw [List.length_take]; omega
      rw [hlen]
      exact impl_part_l1 hl i hi hr (fun j hj2 => (hj j hj2).1) hg false (fun h => by rw [hg, h] at hpi; cases hpi) (fun _ => rfl)
    refine Ev.up ?_
    simp only [impl_isPartition.l0, rdP]
    simp only [if_pos (show (i : Int) < (l.length : Int) by omega), if_pos (show (0 : Int) ≤ (i : Int) by omega)]
    refine Ev.bind (impl_IsBall_ev _ _ _ _) ?_
    cases q1 : ballB p (l.getD i z72).f0.f0 (l.getD i z72).f0.f1 (l.getD i z72).f0.f2 with
    | false => simp only [Bool.false_eq_true, if_false]; exact stop
    | true =>
      simp only [if_true]
      refine Ev.bind (impl_holds_ev hr q1) ?_
      cases q2 : holdsB p rL rT rD (l.getD i z72).f0.f0 (l.getD i z72).f0.f1 (l.getD i z72).f0.f2 with
      | false => simp only [Bool.false_eq_true, if_false]; exact stop
      | true =>
        simp only [if_true]
        by_cases h0 : i = 0
        · simp only [if_neg (show ¬ (i : Int) > 0 by omega)]
          exact fin (by unfold gB pB; rw [q1, q2, decide_eq_true h0]; rfl)
        · have hprev := (gB_lv (hj (i - 1) (by omega)).1).2.2
          simp only [if_pos (show (i : Int) > 0 by omega)]
          refine Ev.bind (impl_mark_ev q1) ?_
          rw [wid (n := (i : Int) - 1) (by omega) (by omega), show (i : Int) - 1 = ((i - 1 : Nat) : Int) by omega]
          simp only [rdP, if_pos (show (0 : Int) ≤ ((i - 1 : Nat) : Int) by omega), if_pos (show ((i - 1 : Nat) : Int) < (l.length : Int) by omega)]
          refine Ev.bind (impl_mark_ev hprev) ?_
          by_cases q3 : pM p (l.getD (i - 1) z72) < pM p (l.getD i z72)
          · rw [decide_eq_false (by unfold pM at q3; omega)]
            exact fin (by unfold gB pB; rw [q1, q2, decide_eq_true q3, Bool.or_true]; rfl)
          · rw [decide_eq_true (by unfold pM at q3; omega)]
            exact stop
  · intro hj
    refine Ev.up ?_
    simp only [impl_isPartition.l0]
    simp only [if_neg (show ¬ (l.length : Int) < (l.length : Int) by omega)]
    refine Ev.bind (impl_power_ev p 12 (by omega)) ?_
    rw [show (12 : Int).toNat = 12 from rfl, powW_prime hp 12 (by omega)]
    exact Ev.now _
theorem impl_IsMeasure_ev (hl : l.length ≤ 4611686018427387904) : Ev (fun k => impl_IsMeasure.f k p rL rT rD l) (measB p rL rT rD l) := by
  have hno : Ev (fun k => impl_IsMeasure.j0 k true rL rT rD l) false := by
    refine Ev.up ?_
    simp only [impl_IsMeasure.j0, if_true]
    exact Ev.now _
  unfold impl_IsMeasure.f measB
  refine Ev.bind (impl_IsBall_ev _ _ _ _) ?_
  cases hr : ballB p rL rT rD with
  | false => simp only [Bool.false_eq_true, if_false, Bool.false_and]; exact hno
  | true =>
    simp only [if_true, Bool.true_and]
    refine Ev.bind (impl_isPartition_ev hr hl) ?_
    generalize decide (1 ≤ l.length ∧ l.length ≤ 64) = D
    generalize ((List.range l.length).all (fun i => gB p rL rT rD l i && apB p l i) && sumP p (12 + rL) l l.length == p ^ 12) = A
    rw [← Bool.and_assoc]
    cases hpt : (D && A) with
    | false => simp only [Bool.not_false, Bool.false_and]; exact hno
    | true =>
      simp only [Bool.not_true, Bool.true_and]
      refine Ev.up ?_
      simp only [impl_IsMeasure.j0, Bool.false_eq_true, if_false]
      have := all_evp (fun k i => impl_IsMeasure.l0 k l l.length (i : Int)) l.length (fun i => wB (l.getD i z72)) true false (fun i r hi _ hw hr' => by
        refine Ev.up ?_
        simp only [impl_IsMeasure.l0, rdP]
        simp only [if_pos (show (i : Int) < (l.length : Int) by omega), if_pos (show (0 : Int) ≤ (i : Int) by omega)]
        refine Ev.bind (impl_isWeight_ev _) ?_
        rw [show decide (-1000000 ≤ (l.getD i z72).f1 ∧ (l.getD i z72).f1 ≤ 1000000) = true from hw, wid (n := (i : Int) + 1) (by omega) (by omega)]
        simp only [if_true]
        exact hr') (fun i hi _ hw => by
        refine Ev.up ?_
        simp only [impl_IsMeasure.l0, rdP]
        simp only [if_pos (show (i : Int) < (l.length : Int) by omega), if_pos (show (0 : Int) ≤ (i : Int) by omega)]
        refine Ev.bind (impl_isWeight_ev _) ?_
        rw [show decide (-1000000 ≤ (l.getD i z72).f1 ∧ (l.getD i z72).f1 ≤ 1000000) = false from hw]
        simp only [Bool.false_eq_true, if_false]
        exact Ev.now _) (fun _ => by
        refine Ev.up ?_
        simp only [impl_IsMeasure.l0]
        simp only [if_neg (show ¬ (l.length : Int) < (l.length : Int) by omega)]
        exact Ev.now _)
      rw [ite_tf] at this
      rw [← all_range_getD l z72 wB]
      exact this
end

def leastS (rL : Int) (l : List S72) : Nat → Int
  | 0 => rL
  | i + 1 => mx (leastS rL l i) (l.getD i z72).f0.f0
def offB (p : Int) (l : List S72) (i : Nat) : Bool := (List.range l.length).all fun k => decide (i = k) || !hB p (l.getD i z72) (l.getD k z72)
theorem mx_max (a b : Int) : mx a b = max a b := by unfold mx; split <;> omega
theorem codeB_one (p rL rT rD : Int) : codeB p [(⟨rL, rT, rD⟩ : S31)] = ballB p rL rT rD := by
  unfold codeB
  cases h : ballB p rL rT rD with
  | false => simp [h]
  | true => simp [h, (ball_parts h).1]
section
variable {p rL rT rD : Int} {l : List S72}
theorem leastS_bd (n : Nat) (h : ∀ j, j < n → rL ≤ (l.getD j z72).f0.f0 ∧ (l.getD j z72).f0.f0 ≤ 6) (h6 : rL ≤ 6) : rL ≤ leastS rL l n ∧ leastS rL l n ≤ 6 ∧ ∀ j, j < n → (l.getD j z72).f0.f0 ≤ leastS rL l n := by
  induction n with
  | zero => exact ⟨Int.le_refl _, h6, fun j hj => absurd hj (by omega)⟩
  | succ n ih =>
    obtain ⟨i1, i2, i3⟩ := ih (fun j hj => h j (by omega))
    have hn := h n (by omega)
    simp only [leastS, mx_max]
    refine ⟨by omega, by omega, fun j hj => ?_⟩
    rcases Nat.lt_or_ge j n with h2 | h2
    · have := i3 j h2; omega
    · rw [show j = n by omega]; omega
theorem sumP_mul {e f : Int} (hf : 0 ≤ f) (n : Nat) (h : ∀ j, j < n → (l.getD j z72).f0.f0 ≤ e) : sumP p (e + f) l n = sumP p e l n * p ^ f.toNat := by
  induction n with
  | zero => simp [sumP]
  | succ n ih =>
    simp only [sumP]
    rw [ih (fun j hj => h j (by omega)), show (e + f - (l.getD n z72).f0.f0).toNat = (e - (l.getD n z72).f0.f0).toNat + f.toNat by have := h n (by omega); omega, Int.pow_add, Int.add_mul]
theorem off_ap : (List.range l.length).all (offB p l) = (List.range l.length).all (apB p l) := by
  rw [Bool.eq_iff_iff]
  simp only [List.all_eq_true, List.mem_range, offB, apB, Bool.or_eq_true, Bool.and_eq_true, decide_eq_true_eq]
  constructor
  · intro h i hi j hj
    exact ⟨(h i hi j (by omega)).resolve_left (by omega), (h j (by omega) i hi).resolve_left (by omega)⟩
  · intro h i hi k hk
    rcases Nat.lt_trichotomy i k with h2 | h2 | h2
    · exact Or.inr (h k hk i h2).2
    · exact Or.inl h2
    · exact Or.inr (h i hi k h2).1
theorem meas_same (hr : ballB p rL rT rD = true) : (if (List.range l.length).all (fun i => gB p rL rT rD l i && wB (l.getD i z72)) = true then ((List.range l.length).all (offB p l) && sumP p (leastS rL l l.length) l l.length == p ^ (leastS rL l l.length - rL).toNat) else false)
    = (((List.range l.length).all (fun i => gB p rL rT rD l i && apB p l i) && sumP p (12 + rL) l l.length == p ^ 12) && l.all wB) := by
  have hp := (ball_parts hr).1
  have hrl := (ball_parts hr).2.1
  rw [off_ap, ← all_range_getD l z72 wB]
  by_cases hg : ∀ i, i < l.length → gB p rL rT rD l i = true
  · obtain ⟨m1, m2, m3⟩ := leastS_bd (rL := rL) (l := l) l.length (fun j hj => ⟨(gB_lv (hg j hj)).1, (gB_lv (hg j hj)).2.1⟩) hrl.2
    have e1 := sumP_mul (p := p) (l := l) (e := leastS rL l l.length) (f := 12 + rL - leastS rL l l.length) (by omega) l.length m3
    rw [show leastS rL l l.length + (12 + rL - leastS rL l l.length) = 12 + rL by omega] at e1
    have e2 : p ^ 12 = p ^ (leastS rL l l.length - rL).toNat * p ^ (12 + rL - leastS rL l l.length).toNat := by
      rw [← Int.pow_add]; congr 1; omega
    have hpos := ipow_pos (show 1 ≤ p by have := prime_lo hp; omega) (12 + rL - leastS rL l l.length).toNat
    have e3 : (sumP p (12 + rL) l l.length == p ^ 12) = (sumP p (leastS rL l l.length) l l.length == p ^ (leastS rL l l.length - rL).toNat) := by
      rw [Bool.eq_iff_iff, beq_iff_eq, beq_iff_eq, e1, e2]
      exact ⟨fun h => Int.eq_of_mul_eq_mul_right (by omega) h, fun h => by rw [h]⟩
    rw [e3]
    have a1 : (List.range l.length).all (fun i => gB p rL rT rD l i && wB (l.getD i z72)) = (List.range l.length).all (fun i => wB (l.getD i z72)) := by
      rw [Bool.eq_iff_iff]; simp only [List.all_eq_true, List.mem_range, Bool.and_eq_true]
      exact ⟨fun h i hi => (h i hi).2, fun h i hi => ⟨hg i hi, h i hi⟩⟩
    have a2 : (List.range l.length).all (fun i => gB p rL rT rD l i && apB p l i) = (List.range l.length).all (apB p l) := by
      rw [Bool.eq_iff_iff]; simp only [List.all_eq_true, List.mem_range, Bool.and_eq_true]
      exact ⟨fun h i hi => (h i hi).2, fun h i hi => ⟨hg i hi, h i hi⟩⟩
    rw [a1, a2]
    cases (List.range l.length).all (fun i => wB (l.getD i z72)) <;> simp
  · have a1 : (List.range l.length).all (fun i => gB p rL rT rD l i && wB (l.getD i z72)) = false := by
      rw [Bool.eq_false_iff]; intro h; simp only [List.all_eq_true, List.mem_range, Bool.and_eq_true] at h
      exact hg fun i hi => (h i hi).1
    have a2 : (List.range l.length).all (fun i => gB p rL rT rD l i && apB p l i) = false := by
      rw [Bool.eq_false_iff]; intro h; simp only [List.all_eq_true, List.mem_range, Bool.and_eq_true] at h
      exact hg fun i hi => (h i hi).1
    rw [a1, a2]
    simp
theorem spec_meas_l1 (hr : ballB p rL rT rD = true) (hl : l.length ≤ 64) (hg : ∀ j, j < l.length → gB p rL rT rD l j = true) :
    Ev (fun k => spec_l08Is.l1 k p (leastS rL l l.length) 0 (0 : Nat) rL rT rD l) ((List.range l.length).all (offB p l) && sumP p (leastS rL l l.length) l l.length == p ^ (leastS rL l l.length - rL).toNat) := by
  have hp := (ball_parts hr).1
  have hrl := (ball_parts hr).2.1
  obtain ⟨m1, m2, m3⟩ := leastS_bd (rL := rL) (l := l) l.length (fun j hj => ⟨(gB_lv (hg j hj)).1, (gB_lv (hg j hj)).2.1⟩) hrl.2
  generalize leastS rL l l.length = M at m1 m2 m3 ⊢
  have inner (i : Nat) (hi : i < l.length) (r : Bool) (hn : offB p l i = true → Ev (fun k => spec_l08Is.l1 k p M (sumP p M l (i + 1)) ((i + 1 : Nat) : Int) rL rT rD l) r) (hf : offB p l i = false → r = false) : Ev (fun k => spec_l08Is.l2 k p M (sumP p M l i) i (0 : Nat) rL rT rD l) r := by
    have := all_evp (fun k j => spec_l08Is.l2 k p M (sumP p M l i) i (j : Int) rL rT rD l) l.length (fun k => decide (i = k) || !hB p (l.getD i z72) (l.getD k z72)) r false (fun j r' hj _ hpj hr' => by
      refine Ev.up ?_
      simp only [spec_l08Is.l2, rdP]
      simp only [if_pos (show (j : Int) < (l.length : Int) by omega)]
      rw [wid (n := (j : Int) + 1) (by omega) (by omega)]
      by_cases e : i = j
      · simp only [if_pos (show (i : Int) = (j : Int) by omega)]; exact hr'
      · simp only [if_neg (show ¬ (i : Int) = (j : Int) by omega), if_pos (show (0 : Int) ≤ (i : Int) by omega), if_pos (show (i : Int) < (l.length : Int) by omega), if_pos (show (0 : Int) ≤ (j : Int) by omega)]
        refine Ev.bind (spec_l01Holds_ev (gB_lv (hg i hi)).2.2 (gB_lv (hg j hj)).2.2) ?_
        have hh : holdsB p (l.getD i z72).f0.f0 (l.getD i z72).f0.f1 (l.getD i z72).f0.f2 (l.getD j z72).f0.f0 (l.getD j z72).f0.f1 (l.getD j z72).f0.f2 = false := by
          rw [decide_eq_false e, Bool.false_or, Bool.not_eq_true'] at hpj; exact hpj
        rw [hh]
        simp only [Bool.false_eq_true, if_false]
        exact hr') (fun j hj _ hpj => by
      refine Ev.up ?_
      simp only [spec_l08Is.l2, rdP]
      simp only [if_pos (show (j : Int) < (l.length : Int) by omega)]
      by_cases e : i = j
      · rw [decide_eq_true e, Bool.true_or] at hpj; cases hpj
      · simp only [if_neg (show ¬ (i : Int) = (j : Int) by omega), if_pos (show (0 : Int) ≤ (i : Int) by omega), if_pos (show (i : Int) < (l.length : Int) by omega), if_pos (show (0 : Int) ≤ (j : Int) by omega)]
        refine Ev.bind (spec_l01Holds_ev (gB_lv (hg i hi)).2.2 (gB_lv (hg j hj)).2.2) ?_
        have hh : holdsB p (l.getD i z72).f0.f0 (l.getD i z72).f0.f1 (l.getD i z72).f0.f2 (l.getD j z72).f0.f0 (l.getD j z72).f0.f1 (l.getD j z72).f0.f2 = true := by
          rw [decide_eq_false e, Bool.false_or, Bool.not_eq_false'] at hpj; exact hpj
        rw [hh]
        simp only [if_true]
        exact Ev.now _) (fun hj => by
      refine Ev.up ?_
      simp only [spec_l08Is.l2, rdP]
      simp only [if_neg (show ¬ (l.length : Int) < (l.length : Int) by omega), if_pos (show (0 : Int) ≤ (i : Int) by omega), if_pos (show (i : Int) < (l.length : Int) by omega)]
      have hi6 := gB_lv (hg i hi)
      have hm := m3 i hi
      rw [wid (n := M - (l.getD i z72).f0.f0) (by omega) (by omega)]
      refine Ev.bind (spec_l01Power_ev p _ (by omega)) ?_
      have hb := sumP_bd (l := l) (rL := rL) (e := M) hp (i + 1) (fun j hj2 => (gB_lv (hg j (by omega))).1) (by omega)
      rw [powW_prime hp _ (by omega), show sumP p M l i + p ^ (M - (l.getD i z72).f0.f0).toNat = sumP p M l (i + 1) from rfl, wid (n := sumP p M l (i + 1)) (by omega) (by omega), wid (n := (i : Int) + 1) (by omega) (by omega)]
      exact hn (by unfold offB; exact List.all_eq_true.2 fun x hx => hj x (List.mem_range.1 hx)))
    cases h : offB p l i with
    | true =>
      rw [show (List.range l.length).all (fun k => decide (i = k) || !hB p (l.getD i z72) (l.getD k z72)) = true from h, if_pos rfl] at this
      exact this
    | false =>
      rw [show (List.range l.length).all (fun k => decide (i = k) || !hB p (l.getD i z72) (l.getD k z72)) = false from h] at this
      rw [hf h]
      simpa using this
  have := all_evp (fun k i => spec_l08Is.l1 k p M (sumP p M l i) (i : Int) rL rT rD l) l.length (offB p l) (sumP p M l l.length == p ^ (M - rL).toNat) false (fun i r hi _ hpi hr' => by
    refine Ev.up ?_
    simp only [spec_l08Is.l1]
    simp only [if_pos (show (i : Int) < (l.length : Int) by omega)]
    exact inner i hi r (fun _ => hr') (fun h => by rw [hpi] at h; cases h)) (fun i hi _ hpi => by
    refine Ev.up ?_
    simp only [spec_l08Is.l1]
    simp only [if_pos (show (i : Int) < (l.length : Int) by omega)]
    exact inner i hi false (fun h => by rw [hpi] at h; cases h) (fun _ => rfl)) (fun _ => by
    refine Ev.up ?_
    simp only [spec_l08Is.l1]
    simp only [if_neg (show ¬ (l.length : Int) < (l.length : Int) by omega)]
    rw [wid (n := M - rL) (by omega) (by omega)]
    refine Ev.bind (spec_l01Power_ev p _ (by omega)) ?_
    rw [powW_prime hp _ (by omega)]
    exact Ev.now _)
  rw [show ∀ (a b : Bool), (a && b) = if a = true then b else false from fun a b => by cases a <;> simp]
  exact this
theorem spec_l08Is_ev (hl0 : l.length ≤ 4611686018427387904) : Ev (fun k => spec_l08Is.f k p rL rT rD l) (measB p rL rT rD l) := by
  have hno : Ev (fun k => spec_l08Is.j0 k p true rL rT rD l) false := by
    refine Ev.up ?_
    simp only [spec_l08Is.j0, if_true]
    exact Ev.now _
  unfold spec_l08Is.f measB
  refine Ev.bind (spec_l01Code_ev p _ (by simp)) ?_
  rw [codeB_one]
  cases hr : ballB p rL rT rD with
  | false => simp only [Bool.false_eq_true, if_false, Bool.false_and, if_neg (show ¬ (1 : Int) = 0 by decide)]; exact hno
  | true =>
    have hp := (ball_parts hr).1
    have hrl := (ball_parts hr).2.1
    simp only [if_true, Bool.true_and]
    by_cases h1 : (l.length : Int) < 1
    · simp only [if_pos h1]
      rw [decide_eq_false (by omega), Bool.false_and]
      exact hno
    simp only [if_neg h1]
    by_cases h2 : (l.length : Int) > 64
    · rw [decide_eq_true h2, decide_eq_false (by omega), Bool.false_and]
      exact hno
    have hl : l.length ≤ 64 := by omega
    rw [decide_eq_false h2, decide_eq_true (show 1 ≤ l.length ∧ l.length ≤ 64 by omega), Bool.true_and]
    refine Ev.up ?_
    simp only [spec_l08Is.j0, Bool.false_eq_true, if_false]
    rw [← meas_same hr]
    have stop (s : Int) (i : Nat) (L T D w : Int) : Ev (fun k => spec_l08Is.j2 k p s i true rL rT rD l L T D w) false := by
      refine Ev.up ?_
      simp only [spec_l08Is.j2, if_true]
      exact Ev.now _
    exact all_evp (fun k i => spec_l08Is.l0 k p (leastS rL l i) (i : Int) rL rT rD l) l.length (fun i => gB p rL rT rD l i && wB (l.getD i z72)) _ false (fun i r hi hj hpi hr' => by
      simp only [Bool.and_eq_true] at hpi hj
      have hw : decide (-1000000 ≤ (l.getD i z72).f1 ∧ (l.getD i z72).f1 ≤ 1000000) = true := hpi.2
      have hg := hpi.1
      unfold gB at hg
      simp only [Bool.and_eq_true, Bool.or_eq_true, decide_eq_true_eq] at hg
      obtain ⟨q1, q2, q3⟩ := hg
      refine Ev.up ?_
      simp only [spec_l08Is.l0, rdP]
      simp only [if_pos (show (i : Int) < (l.length : Int) by omega), if_pos (show (0 : Int) ≤ (i : Int) by omega)]
      refine Ev.bind (spec_l01Is_ev _ _ _ _) ?_
      rw [show ballB p (l.getD i z72).f0.f0 (l.getD i z72).f0.f1 (l.getD i z72).f0.f2 = true from q1]
      simp only [if_true]
      refine Ev.bind (spec_l01Holds_ev hr q1) ?_
      rw [q2]
      simp only [if_true]
      refine Ev.bindv (In_eq _ _ _) ?_
      rw [hw]
      refine Ev.up ?_
      simp only [spec_l08Is.j2, Bool.not_true, Bool.false_eq_true, if_false]
      rw [wid (n := (i : Int) + 1) (by omega) (by omega)]
      by_cases h0 : i = 0
      · simp only [if_neg (show ¬ (i : Int) > 0 by omega)]
        exact hr'
      · have hq := q3.resolve_left h0
        have hprev := (gB_lv (hj (i - 1) (by omega)).1).2.2
        simp only [if_pos (show (i : Int) > 0 by omega)]
        rw [wid (n := (i : Int) - 1) (by omega) (by omega), show (i : Int) - 1 = ((i - 1 : Nat) : Int) by omega]
        simp only [rdP, if_pos (show (0 : Int) ≤ ((i - 1 : Nat) : Int) by omega), if_pos (show ((i - 1 : Nat) : Int) < (l.length : Int) by omega)]
        refine Ev.bind (spec_l08Key_ev hprev) (Ev.bind (spec_l08Key_ev q1) ?_)
        simp only [if_neg (show ¬ markOf p (l.getD (i - 1) z72).f0.f1 (l.getD (i - 1) z72).f0.f2 ≥ markOf p (l.getD i z72).f0.f1 (l.getD i z72).f0.f2 by unfold pM at hq; omega)]
        exact hr') (fun i hi hj hpi => by
      simp only [Bool.and_eq_true] at hj
      refine Ev.up ?_
      simp only [spec_l08Is.l0, rdP]
      simp only [if_pos (show (i : Int) < (l.length : Int) by omega), if_pos (show (0 : Int) ≤ (i : Int) by omega)]
      refine Ev.bind (spec_l01Is_ev _ _ _ _) ?_
      cases q1 : ballB p (l.getD i z72).f0.f0 (l.getD i z72).f0.f1 (l.getD i z72).f0.f2 with
      | false => simp only [Bool.false_eq_true, if_false]; exact stop _ _ _ _ _ _
      | true =>
        simp only [if_true]
        refine Ev.bind (spec_l01Holds_ev hr q1) ?_
        cases q2 : holdsB p rL rT rD (l.getD i z72).f0.f0 (l.getD i z72).f0.f1 (l.getD i z72).f0.f2 with
        | false => simp only [Bool.false_eq_true, if_false]; exact stop _ _ _ _ _ _
        | true =>
          simp only [if_true]
          refine Ev.bindv (In_eq _ _ _) ?_
          cases hw : decide (-1000000 ≤ (l.getD i z72).f1 ∧ (l.getD i z72).f1 ≤ 1000000) with
          | false => simp only [Bool.not_false]; exact stop _ _ _ _ _ _
          | true =>
            have hw2 : wB (l.getD i z72) = true := hw
            refine Ev.up ?_
            simp only [spec_l08Is.j2, Bool.not_true, Bool.false_eq_true, if_false]
            by_cases h0 : i = 0
            · have : gB p rL rT rD l i = true := by unfold gB pB; rw [q1, q2, decide_eq_true h0]; rfl
              rw [this, hw2] at hpi; cases hpi
            · have hprev := (gB_lv (hj (i - 1) (by omega)).1).2.2
              simp only [if_pos (show (i : Int) > 0 by omega)]
              rw [wid (n := (i : Int) - 1) (by omega) (by omega), show (i : Int) - 1 = ((i - 1 : Nat) : Int) by omega]
              simp only [rdP, if_pos (show (0 : Int) ≤ ((i - 1 : Nat) : Int) by omega), if_pos (show ((i - 1 : Nat) : Int) < (l.length : Int) by omega)]
              refine Ev.bind (spec_l08Key_ev hprev) (Ev.bind (spec_l08Key_ev q1) ?_)
              by_cases q3 : pM p (l.getD (i - 1) z72) < pM p (l.getD i z72)
              · have : gB p rL rT rD l i = true := by unfold gB pB; rw [q1, q2, decide_eq_true q3, Bool.or_true]; rfl
                rw [this, hw2] at hpi; cases hpi
              · simp only [if_pos (show markOf p (l.getD (i - 1) z72).f0.f1 (l.getD (i - 1) z72).f0.f2 ≥ markOf p (l.getD i z72).f0.f1 (l.getD i z72).f0.f2 by unfold pM at q3; omega)]
                exact Ev.now _) (fun hj => by
      simp only [Bool.and_eq_true] at hj
      refine Ev.up ?_
      simp only [spec_l08Is.l0]
      simp only [if_neg (show ¬ (l.length : Int) < (l.length : Int) by omega)]
      exact spec_meas_l1 hr hl (fun j h => (hj j h).1))
end

theorem gB_root {p rL rT rD : Int} {l : List S72} {i : Nat} (h : gB p rL rT rD l i = true) : holdsB p rL rT rD (l.getD i z72).f0.f0 (l.getD i z72).f0.f1 (l.getD i z72).f0.f2 = true := by
  unfold gB at h
  simp only [Bool.and_eq_true] at h
  exact h.2.1
theorem measB_parts {p rL rT rD : Int} {l : List S72} (h : measB p rL rT rD l = true) : ballB p rL rT rD = true ∧ (1 ≤ l.length ∧ l.length ≤ 64) ∧ ∀ j, j < l.length → gB p rL rT rD l j = true := by
  unfold measB at h
  simp only [Bool.and_eq_true, decide_eq_true_eq, List.all_eq_true, List.mem_range] at h
  exact ⟨h.1, h.2.1, fun j hj => (h.2.2.1.1 j hj).1⟩

def samL (x : S72) (L T D : Int) : Bool := x.f0.f0 == L && (x.f0.f1 == T && x.f0.f2 == D)
def sumB (p L T D : Int) (l : List S72) : Nat → Int
  | 0 => 0
  | i + 1 => if holdsB p L T D (l.getD i z72).f0.f0 (l.getD i z72).f0.f1 (l.getD i z72).f0.f2 then wrap64 (sumB p L T D l i + (l.getD i z72).f1) else sumB p L T D l i
def fineB (p L T D : Int) (l : List S72) : Nat → Bool
  | 0 => true
  | i + 1 => if holdsB p L T D (l.getD i z72).f0.f0 (l.getD i z72).f0.f1 (l.getD i z72).f0.f2 then (fineB p L T D l i && decide (-1000000 ≤ sumB p L T D l (i + 1) ∧ sumB p L T D l (i + 1) ≤ 1000000)) else fineB p L T D l i
theorem ipow_dvd (p : Int) {a b : Nat} (h : a ≤ b) : p ^ a ∣ p ^ b := ⟨p ^ (b - a), by rw [← Int.pow_add, Nat.add_sub_cancel' h]⟩
theorem measB_apart {p rL rT rD : Int} {l : List S72} (h : measB p rL rT rD l = true) : ∀ i j, i < j → j < l.length → (hB p (l.getD i z72) (l.getD j z72) = false ∧ hB p (l.getD j z72) (l.getD i z72) = false) := by
  unfold measB at h
  simp only [Bool.and_eq_true, decide_eq_true_eq, List.all_eq_true, List.mem_range] at h
  intro i j hij hj
  have := (h.2.2.1.1 j hj).2
  unfold apB at this
  have := List.all_eq_true.1 this i (List.mem_range.2 hij)
  simp only [Bool.and_eq_true, Bool.not_eq_true'] at this
  exact ⟨this.2, this.1⟩
theorem Ev.all {α β : Type} {g : Nat → α → Option β} {r : α → β} (l : List α) (h : ∀ x ∈ l, Ev (fun k => g k x) (r x)) : ∃ K, ∀ k, K ≤ k → ∀ x ∈ l, g k x = some (r x) := by
  induction l with
  | nil => exact ⟨0, fun _ _ x hx => by cases hx⟩
  | cons a l ih =>
    obtain ⟨K, hK⟩ := ih (fun x hx => h x (List.mem_cons_of_mem _ hx))
    obtain ⟨K2, hK2⟩ := h a List.mem_cons_self
    refine ⟨max K K2, fun k hk x hx => ?_⟩
    rcases List.mem_cons.1 hx with rfl | hx
    · exact hK2 k (by omega)
    · exact hK k (by omega) x hx
section
variable {p rL rT rD L T D : Int} {l : List S72} (hl : l.length ≤ 64) (hb : ballB p L T D = true) (hg : ∀ j, j < l.length → pB p (l.getD j z72) = true)
include hl hb hg in
theorem spec_weight_ev : Ev (fun k => spec_l08Weight.f k p rL rT rD l L T D) (sumB p L T D l l.length) := by
  unfold spec_l08Weight.f
  have key : ∀ (d i : Nat), i + d = l.length → Ev (fun k => spec_l08Weight.l0 k p (sumB p L T D l i) i rL rT rD l L T D) (sumB p L T D l l.length) := by
    intro d
    induction d with
    | zero =>
      intro i hi
      obtain rfl : i = l.length := by omega
      refine Ev.up ?_
      simp only [spec_l08Weight.l0, if_neg (show ¬ (l.length : Int) < (l.length : Int) by omega)]
      exact Ev.now _
    | succ d ih =>
      intro i hi
      have hn := ih (i + 1) (by omega)
      refine Ev.up ?_
      simp only [spec_l08Weight.l0, rdP]
      simp only [if_pos (show (i : Int) < (l.length : Int) by omega), if_pos (show (0 : Int) ≤ (i : Int) by omega)]
      refine Ev.bind (spec_l01Holds_ev hb (hg i (by omega))) ?_
      rw [wid (n := (i : Int) + 1) (by omega) (by omega)]
      cases hh : holdsB p L T D (l.getD i z72).f0.f0 (l.getD i z72).f0.f1 (l.getD i z72).f0.f2 with
      | true =>
        rw [show sumB p L T D l (i + 1) = wrap64 (sumB p L T D l i + (l.getD i z72).f1) by rw [sumB, hh]; rfl] at hn
        simp only [if_true]; exact hn
      | false =>
        rw [show sumB p L T D l (i + 1) = sumB p L T D l i by rw [sumB, hh]; rfl] at hn
        simp only [Bool.false_eq_true, if_false]; exact hn
  exact key l.length 0 (by omega)
include hl hb hg in
theorem impl_total_ev : Ev (fun k => impl_total.f k p rL rT rD l L T D) (sumB p L T D l l.length, fineB p L T D l l.length) := by
  unfold impl_total.f
  have key : ∀ (d i : Nat), i + d = l.length → Ev (fun k => impl_total.l0 k p (sumB p L T D l i) (fineB p L T D l i) l l.length i L T D) (sumB p L T D l l.length, fineB p L T D l l.length) := by
    intro d
    induction d with
    | zero =>
      intro i hi
      obtain rfl : i = l.length := by omega
      refine Ev.up ?_
      simp only [impl_total.l0, if_neg (show ¬ (l.length : Int) < (l.length : Int) by omega)]
      exact Ev.now _
    | succ d ih =>
      intro i hi
      have hn := ih (i + 1) (by omega)
      refine Ev.up ?_
      simp only [impl_total.l0, rdP]
      simp only [if_pos (show (i : Int) < (l.length : Int) by omega), if_pos (show (0 : Int) ≤ (i : Int) by omega)]
      refine Ev.bind (impl_holds_ev hb (hg i (by omega))) ?_
      rw [wid (n := (i : Int) + 1) (by omega) (by omega)]
      cases hh : holdsB p L T D (l.getD i z72).f0.f0 (l.getD i z72).f0.f1 (l.getD i z72).f0.f2 with
      | false =>
        rw [show sumB p L T D l (i + 1) = sumB p L T D l i by rw [sumB, hh]; rfl, show fineB p L T D l (i + 1) = fineB p L T D l i by rw [fineB, hh]; rfl] at hn
        simp only [Bool.false_eq_true, if_false]
        exact hn
      | true =>
        have e1 : sumB p L T D l (i + 1) = wrap64 (sumB p L T D l i + (l.getD i z72).f1) := by rw [sumB, hh]; rfl
        have e2 : fineB p L T D l (i + 1) = (fineB p L T D l i && decide (-1000000 ≤ wrap64 (sumB p L T D l i + (l.getD i z72).f1) ∧ wrap64 (sumB p L T D l i + (l.getD i z72).f1) ≤ 1000000)) := by rw [fineB, hh, e1]; rfl
        rw [e1, e2] at hn
        simp only [if_true]
        cases hf : fineB p L T D l i with
        | true =>
          simp only [if_true]
          refine Ev.bind (impl_isWeight_ev _) ?_
          rw [hf, Bool.true_and] at hn
          exact hn
        | false =>
          simp only [Bool.false_eq_true, if_false]
          rw [hf, Bool.false_and] at hn
          exact hn
  exact key l.length 0 (by omega)
include hl hb hg in
include hb hg in
end
theorem holds_dvd {p L T D L' T' D' : Int} : holdsB p L T D L' T' D' = true ↔ L ≤ L' ∧ p ^ (L + 6).toNat ∣ markOf p T' D' - markOf p T D := by
  unfold holdsB
  rw [Bool.and_eq_true, decide_eq_true_eq, beq_iff_eq]
  exact ⟨fun h => ⟨h.1, Int.dvd_of_emod_eq_zero h.2⟩, fun h => ⟨h.1, Int.emod_eq_zero_of_dvd h.2⟩⟩

theorem toNat_pow {p : Int} (hp : 0 ≤ p) (n : Nat) : ((p.toNat ^ n : Nat) : Int) = p ^ n := by
  rw [Int.natCast_pow, Int.toNat_of_nonneg hp]
def clsP (p : Int) (x : S72) : Nat × Nat := (p.toNat ^ (x.f0.f0 + 6).toNat, (pM p x).toNat)
theorem cls_iff {p : Int} {x : S72} (h : pB p x = true) (y : Nat) : y % (clsP p x).1 = (clsP p x).2 ↔ (y : Int) % p ^ (x.f0.f0 + 6).toNat = pM p x := by
  have hp := (ball_parts h).1
  have hp2 := prime_lo hp
  have hm := mark_lt h
  have e : ((y % (clsP p x).1 : Nat) : Int) = (y : Int) % p ^ (x.f0.f0 + 6).toNat := by
    show ((y % p.toNat ^ (x.f0.f0 + 6).toNat : Nat) : Int) = _
    rw [Int.natCast_emod, toNat_pow (by omega)]
  have e2 : (((clsP p x).2 : Nat) : Int) = pM p x := Int.toNat_of_nonneg hm.1
  rw [← e, ← e2]
  exact ⟨fun h => by rw [h], fun h => Int.ofNat.inj h⟩
section
variable {p rL rT rD : Int} {l : List S72} (h : measB p rL rT rD l = true)
include h
theorem meas_sum : sumP p 6 l l.length = p ^ (6 - rL).toNat := by
  obtain ⟨hr, hlen, hg⟩ := measB_parts h
  obtain ⟨hp, hL, _⟩ := ball_parts hr
  have hp2 := prime_lo hp
  have hs : sumP p (12 + rL) l l.length = p ^ 12 := by
    unfold measB at h
    simp only [Bool.and_eq_true, beq_iff_eq] at h
    exact h.2.2.1.2
  have e := sumP_mul (p := p) (l := l) (e := 6) (f := 6 + rL) (by omega) l.length (fun j hj => (gB_lv (hg j hj)).2.1)
  rw [show (6 : Int) + (6 + rL) = 12 + rL by omega, hs] at e
  have e2 : p ^ 12 = p ^ (6 - rL).toNat * p ^ (6 + rL).toNat := by rw [← Int.pow_add]; congr 1; omega
  rw [e2] at e
  exact (Int.eq_of_mul_eq_mul_right (Int.pow_ne_zero (by omega)) e).symm
theorem meas_cover {y : Nat} (hy : (y : Int) < p ^ 12) (hyR : (y : Int) % p ^ (rL + 6).toNat = markOf p rT rD) : ∃ x ∈ l, (y : Int) % p ^ (x.f0.f0 + 6).toNat = pM p x := by
  obtain ⟨hr, hlen, hg⟩ := measB_parts h
  obtain ⟨hp, hL, _⟩ := ball_parts hr
  have hp2 := prime_lo hp
  have hpn : ((p.toNat : Nat) : Int) = p := Int.toNat_of_nonneg (by omega)
  have ho : ∀ x ∈ l, pB p x = true ∧ rL ≤ x.f0.f0 ∧ x.f0.f0 ≤ 6 ∧ holdsB p rL rT rD x.f0.f0 x.f0.f1 x.f0.f2 = true := fun x hx => by
    obtain ⟨i, hi, rfl⟩ := List.mem_iff_getElem.1 hx
    have e : l.getD i z72 = l[i] := by rw [List.getD_eq_getElem?_getD, List.getElem?_eq_getElem hi]; rfl
    have g := hg i hi
    have a := gB_lv g
    have b := gB_root g
    rw [e] at a b
    exact ⟨a.2.2, a.1, a.2.1, b⟩
  have hmr := mark_lt hr
  have hN : ∀ a : Nat, a ≤ 12 → ∃ q, p.toNat ^ 12 = q * p.toNat ^ a := fun a ha => ⟨p.toNat ^ (12 - a), by rw [← Nat.pow_add]; congr 1; omega⟩
  have hpos : 0 < p.toNat := by omega
  have key := cover (N := p.toNat ^ 12) (M := p.toNat ^ (rL + 6).toNat) (R := (markOf p rT rD).toNat) (l := l.map (clsP p)) (y := y)
    ⟨by
      have := hmr.2
      rw [← toNat_pow (by omega)] at this
      omega, hN _ (by omega)⟩
    (fun c hc => by
      obtain ⟨x, hx, rfl⟩ := List.mem_map.1 hc
      obtain ⟨a, b, c, d⟩ := ho x hx
      have := mark_lt a
      refine ⟨?_, hN _ (by omega)⟩
      show (pM p x).toNat < p.toNat ^ (x.f0.f0 + 6).toNat
      have h2 := this.2
      rw [← toNat_pow (by omega)] at h2
      have h1 : pM p x = markOf p x.f0.f1 x.f0.f2 := rfl
      omega)
    (fun c hc z hz => by
      obtain ⟨x, hx, rfl⟩ := List.mem_map.1 hc
      obtain ⟨a, b, c, d⟩ := ho x hx
      rw [cls_iff a] at hz
      rw [holds_dvd] at d
      have e1 : (z : Int) % p ^ (rL + 6).toNat = markOf p rT rD := by
        rw [← mark_mod hr]
        have e2 : (z : Int) % p ^ (rL + 6).toNat = pM p x % p ^ (rL + 6).toNat := by
          rw [← hz, Int.emod_emod_of_dvd _ (ipow_dvd p (by omega))]
        rw [e2]
        exact Int.emod_eq_emod_iff_emod_sub_eq_zero.2 (Int.emod_eq_zero_of_dvd d.2)
      have e3 : ((z % p.toNat ^ (rL + 6).toNat : Nat) : Int) = markOf p rT rD := by rw [Int.natCast_emod, toNat_pow (by omega)]; exact e1
      omega)
    (by
      rw [List.pairwise_map, List.pairwise_iff_getElem]
      intro i j hi hj hij z hz
      have hap := measB_apart h i j hij hj
      have ei : l.getD i z72 = l[i] := by rw [List.getD_eq_getElem?_getD, List.getElem?_eq_getElem hi]; rfl
      have ej : l.getD j z72 = l[j] := by rw [List.getD_eq_getElem?_getD, List.getElem?_eq_getElem hj]; rfl
      rw [ei, ej] at hap
      obtain ⟨a1, _⟩ := ho l[i] (List.getElem_mem hi)
      obtain ⟨b1, _⟩ := ho l[j] (List.getElem_mem hj)
      rw [cls_iff a1, cls_iff b1] at hz
      have two (x x' : S72) (hle : x.f0.f0 ≤ x'.f0.f0) (h1 : (z : Int) % p ^ (x.f0.f0 + 6).toNat = pM p x) (h2 : (z : Int) % p ^ (x'.f0.f0 + 6).toNat = pM p x') : hB p x x' = true := by
        unfold hB
        rw [holds_dvd]
        refine ⟨hle, ?_⟩
        have d1 : p ^ (x.f0.f0 + 6).toNat ∣ (z : Int) - pM p x := by rw [← h1]; exact Int.dvd_self_sub_emod
        have d2 : p ^ (x.f0.f0 + 6).toNat ∣ (z : Int) - pM p x' := Int.dvd_trans (ipow_dvd p (b := (x'.f0.f0 + 6).toNat) (by omega)) (by rw [← h2]; exact Int.dvd_self_sub_emod)
        have := Int.dvd_sub d1 d2
        rwa [show (z : Int) - pM p x - ((z : Int) - pM p x') = pM p x' - pM p x by omega] at this
      rcases Int.le_total l[i].f0.f0 l[j].f0.f0 with hle | hle
      · rw [two _ _ hle hz.1 hz.2] at hap; cases hap.1
      · rw [two _ _ hle hz.2 hz.1] at hap; cases hap.2)
    (by
      have hs := meas_sum h
      have part : ∀ n, n ≤ l.length → (((((l.take n).map (clsP p)).map fun c => p.toNat ^ 12 / c.1).sum : Nat) : Int) = sumP p 6 l n := by
        intro n
        induction n with
        | zero => intro _; rfl
        | succ n ih =>
          intro hn
          have hn' : n < l.length := by omega
          obtain ⟨_, _, c6, _⟩ := ho l[n] (List.getElem_mem hn')
          obtain ⟨b6, _⟩ := ho l[n] (List.getElem_mem hn')
          have lv := (ball_parts b6).2.1
          rw [List.take_succ_eq_append_getElem hn', List.map_append, List.map_append, List.sum_append, Int.natCast_add, ih (by omega)]
          simp only [sumP]
          congr 1
          rw [List.getD_eq_getElem?_getD, List.getElem?_eq_getElem hn']
          show (((p.toNat ^ 12 / p.toNat ^ (l[n].f0.f0 + 6).toNat) + 0 : Nat) : Int) = p ^ (6 - l[n].f0.f0).toNat
          rw [Nat.add_zero, Nat.pow_div (by omega) hpos, toNat_pow (by omega)]
          congr 1
          omega
      have := part l.length (Nat.le_refl _)
      rw [List.take_length, hs] at this
      have e : ((p.toNat ^ 12 / p.toNat ^ (rL + 6).toNat : Nat) : Int) = p ^ (6 - rL).toNat := by
        rw [Nat.pow_div (by omega) hpos, toNat_pow (by omega)]
        congr 1
        omega
      omega)
    (by
      rw [← toNat_pow (by omega)] at hy
      omega)
    (by
      have e3 : ((y % p.toNat ^ (rL + 6).toNat : Nat) : Int) = markOf p rT rD := by rw [Int.natCast_emod, toNat_pow (by omega)]; exact hyR
      omega)
  obtain ⟨c, hc, hz⟩ := key
  obtain ⟨x, hx, rfl⟩ := List.mem_map.1 hc
  exact ⟨x, hx, (cls_iff (ho x hx).1 y).1 hz⟩
end

def posI (p : Int) (out : List S72) (x : S72) : Nat → Nat
  | 0 => 0
  | n + 1 => if pM p (out.getD n z72) > pM p x then posI p out x n else n + 1
def insI (p : Int) (out : List S72) (x : S72) : List S72 := out.take (posI p out x out.length) ++ x :: out.drop (posI p out x out.length)
def isortN (p : Int) (l : List S72) : Nat → List S72
  | 0 => []
  | i + 1 => insI p (isortN p l i) (l.getD i z72)
theorem posI_le (p : Int) (out : List S72) (x : S72) (n : Nat) : posI p out x n ≤ n := by
  induction n with
  | zero => simp [posI]
  | succ n ih =>
    unfold posI
    split <;> omega
theorem insI_len (p : Int) (out : List S72) (x : S72) : (insI p out x).length = out.length + 1 := by
  have := posI_le p out x out.length
  unfold insI
  rw [List.length_append, List.length_take, List.length_cons, List.length_drop]
  omega
theorem isortN_len (p : Int) (l : List S72) (i : Nat) : (isortN p l i).length = i := by
  induction i with
  | zero => rfl
  | succ i ih => unfold isortN; rw [insI_len, ih]
theorem insI_perm (p : Int) (out : List S72) (x : S72) : (insI p out x).Perm (x :: out) := by
  unfold insI
  refine (List.perm_middle).trans ?_
  rw [List.take_append_drop]
theorem isortN_perm (p : Int) (l : List S72) (i : Nat) (hi : i ≤ l.length) : (isortN p l i).Perm (l.take i) := by
  induction i with
  | zero => simp [isortN]
  | succ i ih =>
    unfold isortN
    refine (insI_perm p _ _).trans ((List.Perm.cons _ (ih (by omega))).trans ?_)
    have e : l.take (i + 1) = l.take i ++ [l.getD i z72] := by
      rw [List.take_add_one, List.getD_eq_getElem?_getD, List.getElem?_eq_getElem (by omega)]; rfl
    rw [e]
    exact (List.perm_append_singleton _ _).symm
theorem getD_mem {l : List S72} {i : Nat} (h : i < l.length) : l.getD i z72 ∈ l := by
  rw [List.getD_eq_getElem?_getD, List.getElem?_eq_getElem h]
  exact List.getElem_mem h
theorem isortN_mem {p : Int} {l : List S72} {i : Nat} (hi : i ≤ l.length) {x : S72} (h : x ∈ isortN p l i) : x ∈ l := List.mem_of_mem_take ((isortN_perm p l i hi).mem_iff.1 h)
theorem isortN_asc {p : Int} {l : List S72} (h : ∀ j, 0 < j → j < l.length → pM p (l.getD (j - 1) z72) < pM p (l.getD j z72)) (i : Nat) (hi : i ≤ l.length) : isortN p l i = l.take i := by
  induction i with
  | zero => simp [isortN]
  | succ i ih =>
    have e : l.take (i + 1) = l.take i ++ [l.getD i z72] := by
      rw [List.take_add_one, List.getD_eq_getElem?_getD, List.getElem?_eq_getElem (by omega)]; rfl
    have hl : (l.take i).length = i := by rw [List.length_take]; omega
    have hp : posI p (l.take i) (l.getD i z72) i = i := by
      cases i with
      | zero => rfl
      | succ n =>
        have h1 := h (n + 1) (by omega) (by omega)
        unfold posI
        rw [getD_take (by omega), if_neg]
        simp only [Nat.add_sub_cancel] at h1
        omega
    unfold isortN
    rw [ih (by omega)]
    unfold insI
    rw [hl, hp, List.take_of_length_le (by omega), List.drop_of_length_le (by omega), e]
theorem spec_l08Sorted_ev {p : Int} {l : List S72} (hl : l.length ≤ 1048576) (hb : ∀ x ∈ l, pB p x = true) : Ev (fun k => spec_l08Sorted.f k p l) (isortN p l l.length) := by
  have inner : ∀ (i : Nat) (out : List S72) (r : List S72), i < l.length → out.length = i → (∀ x ∈ out, pB p x = true) → ∀ n, n ≤ out.length → Ev (fun k => spec_l08Sorted.l0 k p l (out.take (posI p out (l.getD i z72) n) ++ l.getD i z72 :: out.drop (posI p out (l.getD i z72) n)) ((i + 1 : Nat) : Int)) r → Ev (fun k => spec_l08Sorted.l1 k p l out i (n : Int)) r := by
    intro i out r hi ho hbo n
    induction n with
    | zero =>
      intro _ h
      refine Ev.up ?_
      simp only [spec_l08Sorted.l1]
      simp only [if_neg (show ¬ ((0 : Nat) : Int) > 0 by omega), if_pos (show (0 : Int) ≤ (i : Int) by omega), if_pos (show (i : Int) < (l.length : Int) by omega), Option.bind_some, if_pos (show (0 : Int) ≤ ((0 : Nat) : Int) by omega), if_pos (show ((0 : Nat) : Int) ≤ (out.length : Int) by omega), Int.toNat_natCast, List.length_append, List.length_take, List.length_drop, List.length_cons, List.length_nil, List.nil_append]
      simp only [if_pos (show 0 + 1 + (out.length - 0) < 4398046511104 by omega), if_pos (show 0 + min 0 out.length < 4398046511104 by omega), if_pos (show 0 + min 0 out.length + (0 + 1 + (out.length - 0)) < 4398046511104 by omega)]
      rw [wid (n := (i : Int) + 1) (by omega) (by omega)]
      exact h
    | succ n ih =>
      intro hn h
      have hm : out.getD n z72 ∈ out := getD_mem (by omega)
      refine Ev.up ?_
      simp only [spec_l08Sorted.l1]
      simp only [if_pos (show ((n + 1 : Nat) : Int) > 0 by omega)]
      rw [wid (n := ((n + 1 : Nat) : Int) - 1) (by omega) (by omega), show ((n + 1 : Nat) : Int) - 1 = (n : Int) by omega]
      simp only [if_pos (show (0 : Int) ≤ (n : Int) by omega), if_pos (show (n : Int) < (out.length : Int) by omega), if_pos (show (0 : Int) ≤ (i : Int) by omega), if_pos (show (i : Int) < (l.length : Int) by omega), rdP]
      refine Ev.bind (spec_l08Key_ev (hbo _ hm)) (Ev.bind (spec_l08Key_ev (hb _ (getD_mem hi))) ?_)
      by_cases hgt : pM p (out.getD n z72) > pM p (l.getD i z72)
      · simp only [if_pos (show markOf p (out.getD n z72).f0.f1 (out.getD n z72).f0.f2 > markOf p (l.getD i z72).f0.f1 (l.getD i z72).f0.f2 from hgt)]
        unfold posI at h
        rw [if_pos hgt] at h
        exact ih (by omega) h
      · unfold posI at h
        rw [if_neg hgt] at h
        simp only [if_neg (show ¬ markOf p (out.getD n z72).f0.f1 (out.getD n z72).f0.f2 > markOf p (l.getD i z72).f0.f1 (l.getD i z72).f0.f2 from hgt), Option.bind_some, if_pos (show (0 : Int) ≤ ((n + 1 : Nat) : Int) by omega), if_pos (show ((n + 1 : Nat) : Int) ≤ (out.length : Int) by omega), Int.toNat_natCast, List.length_append, List.length_take, List.length_drop, List.length_cons, List.length_nil, List.nil_append]
        simp only [if_pos (show 0 + 1 + (out.length - (n + 1)) < 4398046511104 by omega), if_pos (show 0 + min (n + 1) out.length < 4398046511104 by omega), if_pos (show 0 + min (n + 1) out.length + (0 + 1 + (out.length - (n + 1))) < 4398046511104 by omega)]
        rw [wid (n := (i : Int) + 1) (by omega) (by omega)]
        exact h
  unfold spec_l08Sorted.f
  have key : ∀ (d i : Nat), i + d = l.length → Ev (fun k => spec_l08Sorted.l0 k p l (isortN p l i) i) (isortN p l l.length) := by
    intro d
    induction d with
    | zero =>
      intro i hi
      obtain rfl : i = l.length := by omega
      refine Ev.up ?_
      simp only [spec_l08Sorted.l0, if_neg (show ¬ (l.length : Int) < (l.length : Int) by omega)]
      exact Ev.now _
    | succ d ih =>
      intro i hi
      refine Ev.up ?_
      simp only [spec_l08Sorted.l0, if_pos (show (i : Int) < (l.length : Int) by omega)]
      have hlen := isortN_len p l i
      refine inner i (isortN p l i) _ (by omega) hlen (fun x hx => hb x (isortN_mem (by omega) hx)) _ (Nat.le_refl _) ?_
      exact ih (i + 1) (by omega)
  exact key l.length 0 (by omega)
def upF (p v : Int) (x : S72) : S31 := ⟨v, (ofM p v (pM p x)).2.1, (ofM p v (pM p x)).2.2⟩
def lvN (p v : Int) (l : List S72) : Nat → List S72
  | 0 => []
  | n + 1 => if (l.getD n z72).f0.f0 < v then lvN p v l n else
    if ((lvN p v l n).any fun y => samL y v (ofM p v (pM p (l.getD n z72))).2.1 (ofM p v (pM p (l.getD n z72))).2.2) = true then lvN p v l n else
    lvN p v l n ++ [⟨upF p v (l.getD n z72), sumB p v (ofM p v (pM p (l.getD n z72))).2.1 (ofM p v (pM p (l.getD n z72))).2.2 l l.length⟩]
theorem lvN_len (p v : Int) (l : List S72) (n : Nat) : (lvN p v l n).length ≤ n := by
  induction n with
  | zero => exact Nat.le_refl _
  | succ n ih =>
    unfold lvN
    split
    · omega
    · split
      · omega
      · rw [List.length_append]; simp; omega
theorem samL_iff {x : S72} {L T D : Int} : samL x L T D = true ↔ x.f0.f0 = L ∧ x.f0.f1 = T ∧ x.f0.f2 = D := by
  unfold samL
  simp only [Bool.and_eq_true, beq_iff_eq]
theorem lvN_in {p v : Int} {l : List S72} (n : Nat) : ∀ y ∈ lvN p v l n, ∃ i, i < n ∧ v ≤ (l.getD i z72).f0.f0 ∧ y = ⟨upF p v (l.getD i z72), sumB p v (ofM p v (pM p (l.getD i z72))).2.1 (ofM p v (pM p (l.getD i z72))).2.2 l l.length⟩ := by
  induction n with
  | zero => intro y hy; exact absurd hy List.not_mem_nil
  | succ n ih =>
    intro y hy
    unfold lvN at hy
    by_cases h1 : (l.getD n z72).f0.f0 < v
    · rw [if_pos h1] at hy; obtain ⟨i, hi, h⟩ := ih y hy; exact ⟨i, by omega, h⟩
    rw [if_neg h1] at hy
    split at hy
    · obtain ⟨i, hi, h⟩ := ih y hy; exact ⟨i, by omega, h⟩
    · rcases List.mem_append.1 hy with hy | hy
      · obtain ⟨i, hi, h⟩ := ih y hy; exact ⟨i, by omega, h⟩
      · exact ⟨n, by omega, by omega, List.mem_singleton.1 hy⟩
theorem lvN_has {p v : Int} {l : List S72} (n : Nat) : ∀ i, i < n → v ≤ (l.getD i z72).f0.f0 → ∃ y ∈ lvN p v l n, y.f0 = upF p v (l.getD i z72) := by
  induction n with
  | zero => intro i hi; exact absurd hi (Nat.not_lt_zero _)
  | succ n ih =>
    intro i hi hv
    unfold lvN
    by_cases h1 : (l.getD n z72).f0.f0 < v
    · rw [if_pos h1]
      rcases Nat.lt_or_ge i n with h | h
      · exact ih i h hv
      · have : i = n := by omega
        subst this; omega
    rw [if_neg h1]
    split
    · rename_i h2
      rcases Nat.lt_or_ge i n with h | h
      · exact ih i h hv
      · have : i = n := by omega
        subst this
        obtain ⟨y, hy, hs⟩ := List.any_eq_true.1 h2
        obtain ⟨a, b, c⟩ := samL_iff.1 hs
        refine ⟨y, hy, ?_⟩
        unfold upF
        rw [← b, ← c]
        obtain ⟨⟨y0, y1, y2⟩, yw⟩ := y
        simp only at a
        subst a
        rfl
    · rcases Nat.lt_or_ge i n with h | h
      · obtain ⟨y, hy, e⟩ := ih i h hv; exact ⟨y, List.mem_append_left _ hy, e⟩
      · have : i = n := by omega
        subst this
        exact ⟨_, List.mem_append_right _ (List.mem_singleton.2 rfl), rfl⟩
theorem upF_mark {p v w : Int} {x : S72} (hp : 2 ≤ p) : pM p ⟨upF p v x, w⟩ = pM p x % p ^ (v + 6).toNat := (ofM_back hp).1
section
variable {p rL rT rD : Int} {l : List S72} (h : measB p rL rT rD l = true)
include h
theorem meas_own {i : Nat} (hi : i < l.length) : pB p (l.getD i z72) = true ∧ rL ≤ (l.getD i z72).f0.f0 ∧ (l.getD i z72).f0.f0 ≤ 6 ∧ holdsB p rL rT rD (l.getD i z72).f0.f0 (l.getD i z72).f0.f1 (l.getD i z72).f0.f2 = true := by
  obtain ⟨_, _, hg⟩ := measB_parts h
  have a := gB_lv (hg i hi)
  exact ⟨a.2.2, a.1, a.2.1, gB_root (hg i hi)⟩
theorem meas_asc : ∀ j, j < l.length → ∀ i, i < j → pM p (l.getD i z72) < pM p (l.getD j z72) := by
  obtain ⟨_, _, hg⟩ := measB_parts h
  intro j
  induction j with
  | zero => intro _ i hi; exact absurd hi (Nat.not_lt_zero _)
  | succ j ih =>
    intro hj i hi
    have hs : pM p (l.getD j z72) < pM p (l.getD (j + 1) z72) := by
      have g := hg (j + 1) hj
      unfold gB at g
      simp only [Bool.and_eq_true, Bool.or_eq_true, decide_eq_true_eq] at g
      rcases g.2.2 with g | g
      · omega
      · exact g
    rcases Nat.lt_or_ge i j with hl | hl
    · have := ih (by omega) i hl; omega
    · have : i = j := by omega
      subst this; exact hs
theorem first_mark {v : Int} (hv : rL ≤ v) (hv6 : v ≤ 6) {n : Nat} (hn : n < l.length) (hlv : v ≤ (l.getD n z72).f0.f0) (hf : ∀ i, i < n → v ≤ (l.getD i z72).f0.f0 → upF p v (l.getD i z72) ≠ upF p v (l.getD n z72)) : pM p (l.getD n z72) % p ^ (v + 6).toNat = pM p (l.getD n z72) := by
  obtain ⟨hr, hlen, hg⟩ := measB_parts h
  obtain ⟨hp, hL, _⟩ := ball_parts hr
  have hp2 := prime_lo hp
  obtain ⟨b1, b2, b3, b4⟩ := meas_own h hn
  obtain ⟨x, hx⟩ : ∃ x, x = l.getD n z72 := ⟨_, rfl⟩
  rw [← hx] at b1 b2 b3 b4 hlv hf ⊢
  have hm := mark_lt b1
  have hpos := ipow_pos (p := p) (by omega) (v + 6).toNat
  obtain ⟨y, hy⟩ : ∃ y : Nat, (y : Int) = pM p x % p ^ (v + 6).toNat := ⟨(pM p x % p ^ (v + 6).toNat).toNat, Int.toNat_of_nonneg (Int.emod_nonneg _ (by omega))⟩
  have hylt : (y : Int) < p ^ (v + 6).toNat := by rw [hy]; exact Int.emod_lt_of_pos _ (by omega)
  have hy12 : (y : Int) < p ^ 12 := by
    have : p ^ (v + 6).toNat ≤ p ^ 12 := by
      rw [show (12 : Nat) = (v + 6).toNat + (12 - (v + 6).toNat) by omega, Int.pow_add]
      have q := ipow_pos (p := p) (by omega) (12 - (v + 6).toNat)
      have := Int.mul_le_mul_of_nonneg_left (c := p ^ (v + 6).toNat) q (by omega)
      omega
    omega
  have hyx : ∀ e : Nat, e ≤ (v + 6).toNat → (y : Int) % p ^ e = pM p x % p ^ e := fun e he => by rw [hy, Int.emod_emod_of_dvd _ (ipow_dvd p he)]
  rw [holds_dvd] at b4
  have hyR : (y : Int) % p ^ (rL + 6).toNat = markOf p rT rD := by
    rw [hyx _ (by omega), ← mark_mod hr]
    exact Int.emod_eq_emod_iff_emod_sub_eq_zero.2 (Int.emod_eq_zero_of_dvd b4.2)
  obtain ⟨z, hz, hzy⟩ := meas_cover h hy12 hyR
  obtain ⟨m, hml, hmz⟩ := List.mem_iff_getElem.1 hz
  have em : l.getD m z72 = z := by rw [List.getD_eq_getElem?_getD, List.getElem?_eq_getElem hml, ← hmz]; rfl
  obtain ⟨c1, c2, c3, _⟩ := meas_own h hml
  rw [em] at c1 c2 c3
  have hzv : v ≤ z.f0.f0 := by
    refine Classical.byContradiction fun hc => ?_
    have hh : hB p z x = true := by
      unfold hB
      rw [holds_dvd]
      refine ⟨by omega, ?_⟩
      rw [hyx _ (by omega)] at hzy
      have e2 : markOf p x.f0.f1 x.f0.f2 = pM p x := rfl
      have e3 : markOf p z.f0.f1 z.f0.f2 = pM p z := rfl
      rw [e2, e3, ← hzy]
      exact Int.dvd_self_sub_emod
    rcases Nat.lt_trichotomy m n with hmn | hmn | hmn
    · have := (measB_apart h m n hmn hn).1
      rw [em, ← hx, hh] at this; cases this
    · subst hmn
      rw [← em, ← hx] at hc; omega
    · have := (measB_apart h n m hmn hml).2
      rw [em, ← hx, hh] at this; cases this
  have hzy2 : (y : Int) = pM p z := by
    rw [← hzy]
    refine (Int.emod_eq_of_lt (by omega) ?_).symm
    have : p ^ (v + 6).toNat ≤ p ^ (z.f0.f0 + 6).toNat := by
      rw [show (z.f0.f0 + 6).toNat = (v + 6).toNat + ((z.f0.f0 + 6).toNat - (v + 6).toNat) by omega, Int.pow_add]
      have q := ipow_pos (p := p) (by omega) ((z.f0.f0 + 6).toNat - (v + 6).toNat)
      have := Int.mul_le_mul_of_nonneg_left (c := p ^ (v + 6).toNat) q (by omega)
      omega
    omega
  have hup : upF p v z = upF p v x := by
    have : ofM p v (pM p z) = ofM p v (pM p x) := (ofM_inj hp2).2 (by rw [← hzy2, hy, Int.emod_emod])
    unfold upF
    rw [this]
  rcases Nat.lt_trichotomy m n with hmn | hmn | hmn
  · exact absurd (by rw [em]; exact hup) (hf m hmn (by rw [em]; exact hzv))
  · subst hmn
    rw [hx, em, ← hzy2]
    have e : x = z := by rw [hx, em]
    rw [Int.emod_eq_of_lt (by omega) hylt]
  · have := meas_asc h m hml n hmn
    rw [em, ← hx, ← hzy2, hy] at this
    have e1 := Int.emod_add_mul_ediv (pM p x) (p ^ (v + 6).toNat)
    have e2 : 0 ≤ p ^ (v + 6).toNat * (pM p x / p ^ (v + 6).toNat) := Int.mul_nonneg (by omega) (Int.ediv_nonneg hm.1 (by omega))
    generalize p ^ (v + 6).toNat * (pM p x / p ^ (v + 6).toNat) = q at e1 e2
    omega
theorem lvN_asc {v : Int} (hv : rL ≤ v) (hv6 : v ≤ 6) (n : Nat) (hn : n ≤ l.length) : (∀ y ∈ lvN p v l n, ∃ i, i < n ∧ pM p y = pM p (l.getD i z72)) ∧ (lvN p v l n).Pairwise fun a b => pM p a < pM p b := by
  have hp2 := prime_lo (ball_parts (measB_parts h).1).1
  induction n with
  | zero => exact ⟨fun y hy => absurd hy List.not_mem_nil, List.Pairwise.nil⟩
  | succ n ih =>
    obtain ⟨i1, i2⟩ := ih (by omega)
    have up : ∀ y ∈ lvN p v l n, ∃ i, i < n + 1 ∧ pM p y = pM p (l.getD i z72) := fun y hy => by
      obtain ⟨i, hi, e⟩ := i1 y hy; exact ⟨i, by omega, e⟩
    unfold lvN
    by_cases h1 : (l.getD n z72).f0.f0 < v
    · rw [if_pos h1]; exact ⟨up, i2⟩
    rw [if_neg h1]
    by_cases h2 : ((lvN p v l n).any fun y => samL y v (ofM p v (pM p (l.getD n z72))).2.1 (ofM p v (pM p (l.getD n z72))).2.2) = true
    · rw [if_pos h2]; exact ⟨up, i2⟩
    rw [if_neg h2]
    have hown := first_mark h hv hv6 (show n < l.length by omega) (by omega) (fun i hi hvi e => h2 (by
      obtain ⟨y, hy, ey⟩ := lvN_has (p := p) (l := l) n i hi hvi
      refine List.any_eq_true.2 ⟨y, hy, samL_iff.2 ?_⟩
      rw [ey, e]
      exact ⟨rfl, rfl, rfl⟩))
    have hnew : ∀ w, pM p (⟨upF p v (l.getD n z72), w⟩ : S72) = pM p (l.getD n z72) := fun w => (upF_mark hp2).trans hown
    refine ⟨fun y hy => ?_, List.pairwise_append.2 ⟨i2, List.pairwise_singleton _ _, fun a ha b hb => ?_⟩⟩
    · rcases List.mem_append.1 hy with hy | hy
      · exact up y hy
      · exact ⟨n, by omega, by rw [List.mem_singleton.1 hy, hnew]⟩
    · rw [List.mem_singleton.1 hb, hnew]
      obtain ⟨i, hi, e⟩ := i1 a ha
      rw [e]
      exact meas_asc h n (by omega) i hi
theorem lvN_ball {v : Int} (hv : -6 ≤ v) (hv6 : v ≤ 6) {n : Nat} (hn : n ≤ l.length) : ∀ y ∈ lvN p v l n, pB p y = true ∧ y.f0.f0 = v := by
  intro y hy
  obtain ⟨i, hi, _, rfl⟩ := lvN_in n y hy
  exact ⟨ofM_ball (ball_parts (measB_parts h).1).1 ⟨hv, hv6⟩, rfl⟩
theorem lvN_sorted {v : Int} (hv : rL ≤ v) (hv6 : v ≤ 6) : isortN p (lvN p v l l.length) (lvN p v l l.length).length = lvN p v l l.length := by
  have hs := (lvN_asc h hv hv6 l.length (Nat.le_refl _)).2
  rw [isortN_asc (fun j h0 hj => ?_) _ (Nat.le_refl _), List.take_length]
  rw [List.getD_eq_getElem?_getD, List.getElem?_eq_getElem (by omega), List.getD_eq_getElem?_getD, List.getElem?_eq_getElem hj]
  exact List.pairwise_iff_getElem.1 hs (j - 1) j (by omega) hj (by omega)
end
def flowU (p rL : Int) (l : List S72) : Nat → List S72
  | 0 => []
  | m + 1 => flowU p rL l m ++ lvN p (rL + (m + 1 : Nat)) l l.length
theorem flowU_len (p rL : Int) (l : List S72) (hl : l.length ≤ 64) (m : Nat) : (flowU p rL l m).length ≤ m * 64 := by
  induction m with
  | zero => exact Nat.le_refl _
  | succ m ih =>
    unfold flowU
    rw [List.length_append]
    have := lvN_len p (rL + (m + 1 : Nat)) l l.length
    omega
theorem flowU_lv {p rL : Int} {l : List S72} (m : Nat) : ∀ y ∈ flowU p rL l m, y.f0.f0 ≤ rL + m := by
  induction m with
  | zero => intro y hy; exact absurd hy List.not_mem_nil
  | succ m ih =>
    intro y hy
    unfold flowU at hy
    rcases List.mem_append.1 hy with hy | hy
    · have := ih y hy; omega
    · obtain ⟨i, hi, _, rfl⟩ := lvN_in _ y hy
      show rL + ((m + 1 : Nat) : Int) ≤ _
      omega
theorem lvN_none {p v : Int} {l : List S72} (n : Nat) (h : ∀ i, i < n → (l.getD i z72).f0.f0 < v) : lvN p v l n = [] := by
  induction n with
  | zero => rfl
  | succ n ih => unfold lvN; rw [if_pos (h n (by omega))]; exact ih (fun i hi => h i (by omega))
theorem flowU_stop {p rL : Int} {l : List S72} {m : Nat} (h : ∀ i, i < l.length → (l.getD i z72).f0.f0 ≤ rL + m) (d : Nat) : flowU p rL l (m + d) = flowU p rL l m := by
  induction d with
  | zero => rfl
  | succ d ih =>
    rw [← Nat.add_assoc]
    unfold flowU
    rw [ih, lvN_none _ (fun i hi => by have := h i hi; omega), List.append_nil]
    cases m <;> rfl

theorem impl_valuation_l (p : Int) (hp : 2 ≤ p) (v : Nat) : ∀ (n u acc : Int), n = p ^ v * u → ¬ p ∣ u → n ≠ 0 → -4611686018427387904 ≤ n → n ≤ 4611686018427387904 → 0 ≤ acc → acc + v ≤ 4611686018427387904 → Ev (fun k => impl_valuation.l0 k p n acc) (acc + v) := by
  induction v with
  | zero =>
    intro n u acc h hu h0 h1 h2 h3 h4
    refine Ev.step (f := fun _ => some acc) (fun k => ?_) (by simp; exact Ev.now _)
    simp only [impl_valuation.l0]
    rw [if_neg (by omega), if_neg]
    intro e
    rw [h] at e
    exact hu (by simpa using Int.dvd_of_tmod_eq_zero e)
  | succ v ih =>
    intro n u acc h hu h0 h1 h2 h3 h4
    have hn : n = p * (p ^ v * u) := by rw [h, Int.pow_succ', Int.mul_assoc]
    have hm : Int.tmod n p = 0 := by rw [hn]; exact Int.mul_tmod_right p _
    have hd : Int.tdiv n p = p ^ v * u := by rw [hn]; exact Int.mul_tdiv_cancel_left _ (by omega)
    have hb := tdiv_bdv p (show -4611686018427387904 ≤ n ∧ n ≤ 4611686018427387904 from ⟨h1, h2⟩)
    have hne : p ^ v * u ≠ 0 := by intro e; rw [e] at hn; simp at hn; exact h0 hn
    refine Ev.step (f := fun k => impl_valuation.l0 k p (p ^ v * u) (acc + 1)) (fun k => ?_) ?_
    · simp only [impl_valuation.l0]
      rw [if_neg (by omega), if_pos hm, hd]
      rw [hd] at hb
      rw [wid (n := p ^ v * u) (by omega) (by omega), wid (n := acc + 1) (by omega) (by omega)]
    · rw [hd] at hb
      have := ih (p ^ v * u) u (acc + 1) rfl hu hne hb.1 hb.2 (by omega) (by omega)
      rw [show acc + ((v + 1 : Nat) : Int) = acc + 1 + (v : Int) from by omega]
      exact this
def valW (p n : Int) : Int := if n = 0 then 1000 else val p n
theorem impl_valuation_ev {p n : Int} (hp : 2 ≤ p) (h1 : -4611686018427387904 ≤ n) (h2 : n ≤ 4611686018427387904) : Ev (fun k => impl_valuation.f k p n) (valW p n) := by
  unfold impl_valuation.f valW
  by_cases h0 : n = 0
  · simp only [if_pos h0]; exact Ev.now _
  · simp only [if_neg h0]
    obtain ⟨u, h, hu⟩ := val_spec hp h0
    have hv := val_le_of_lt hp h0 63 (by omega)
    have := impl_valuation_l p hp (val p n) n u 0 h hu h0 h1 h2 (by omega) (by omega)
    rw [Int.zero_add] at this
    exact this

theorem impl_mod_eq {a m : Int} (hm : 1 ≤ m) (hm2 : m ≤ 2305843009213693952) : impl_mod.f a m = some (a % m) := by
  unfold impl_mod.f
  rw [if_neg (by omega), modW hm hm2]
theorem impl_ofMark_ev {p L x : Int} (hp : primeB p = true) (hL : -6 ≤ L ∧ L ≤ 6) : Ev (fun k => impl_ofMark.f k p L x) ((ofM p L x).1, (ofM p L x).2.1, (ofM p L x).2.2, true) := by
  have hp2 := prime_lo hp
  unfold impl_ofMark.f
  refine Ev.bindv (impl_isLevel_eq L) ?_
  rw [decide_eq_true hL]
  simp only [if_true]
  rw [wid (n := L + 6) (by omega) (by omega)]
  refine Ev.bind (impl_power_ev p (L + 6) (by omega)) ?_
  rw [powW_prime hp _ (by omega)]
  have m1 := ipow_pos (p := p) (by omega) (L + 6).toNat
  have m2 := pow_13 hp (L + 6).toNat (by omega)
  refine Ev.bindv (impl_mod_eq m1 (by omega)) ?_
  have x0 := Int.emod_nonneg x (show p ^ (L + 6).toNat ≠ 0 by omega)
  have x1 := Int.emod_lt_of_pos x (show 0 < p ^ (L + 6).toNat by omega)
  refine Ev.bind (impl_valuation_ev hp2 (by omega) (by omega)) ?_
  have hv : valW p (x % p ^ (L + 6).toNat) ≤ 1000 ∧ 0 ≤ valW p (x % p ^ (L + 6).toNat) := by
    unfold valW
    split
    · omega
    · rename_i h0
      have := val_le_of_lt hp2 h0 62 (by omega)
      omega
  have hdn : mx (wrap64 (6 - valW p (x % p ^ (L + 6).toNat))) 0 = (ofM p L x).2.2 := by
    rw [wid (n := 6 - valW p (x % p ^ (L + 6).toNat)) (by omega) (by omega)]
    unfold ofM valW mx
    simp only
    by_cases h0 : x % p ^ (L + 6).toNat = 0
    · rw [if_pos h0, if_pos h0]; rfl
    · rw [if_neg h0, if_neg h0]
      by_cases h6 : ((val p (x % p ^ (L + 6).toNat) : Nat) : Int) < 6
      · rw [if_neg (by omega), if_pos h6]
      · rw [if_neg h6]; split <;> omega
  rw [hdn]
  obtain ⟨_, hD, _⟩ := ofM_back (p := p) (L := L) (X := x) hp2
  rw [wid (n := 6 - (ofM p L x).2.2) (by omega) (by omega)]
  refine Ev.bind (impl_power_ev p _ (by omega)) ?_
  rw [powW_prime hp _ (by omega)]
  have q1 := ipow_pos (p := p) (by omega) (6 - (ofM p L x).2.2).toNat
  simp only [if_neg (show ¬ p ^ (6 - (ofM p L x).2.2).toNat = 0 by omega)]
  rw [tdiv_cast x0]
  have hT : x % p ^ (L + 6).toNat / p ^ (6 - (ofM p L x).2.2).toNat = (ofM p L x).2.1 := rfl
  have d0 := Int.ediv_nonneg x0 (show 0 ≤ p ^ (6 - (ofM p L x).2.2).toNat by omega)
  have d1 := Int.ediv_le_self (p ^ (6 - (ofM p L x).2.2).toNat) x0
  rw [wid (n := x % p ^ (L + 6).toNat / p ^ (6 - (ofM p L x).2.2).toNat) (by omega) (by omega), hT]
  exact Ev.now _
def cF (x : S72) : S63 := ⟨x.f0, x.f1⟩
theorem impl_above_ev {p L T D v : Int} (h : ballB p L T D = true) (hv : -6 ≤ v ∧ v ≤ 6) : Ev (fun k => impl_above.f k p L T D v) (v, (ofM p v (markOf p T D)).2.1, (ofM p v (markOf p T D)).2.2) := by
  unfold impl_above.f
  exact Ev.bind (impl_mark_ev h) (Ev.bind (impl_ofMark_ev (ball_parts h).1 hv) (Ev.now _))
theorem spec_up_ev {p L T D v : Int} (h : ballB p L T D = true) (hv : -6 ≤ v ∧ v ≤ 6) : Ev (fun k => spec_l02Up.f k p L T D v) (v, (ofM p v (markOf p T D)).2.1, (ofM p v (markOf p T D)).2.2, true) := by
  unfold spec_l02Up.f
  obtain ⟨K, hK⟩ := spec_l01Of_ball v h hv
  refine ⟨K, fun k hk => ?_⟩
  have e := hK k hk
  obtain ⟨t, h1, h2⟩ := Option.bind_eq_some_iff.1 e
  simp only [h1, Option.bind_some, h2]
  rfl
theorem has_eq {P Q : List S72} {v T D : Int} (h : ∀ y ∈ P, y.f0.f0 < v) : impl_flowOf_has.f ((P ++ Q).map cF) v T D = some (Q.any fun y => samL y v T D) := by
  unfold impl_flowOf_has.f
  congr 1
  rw [List.map_append, List.any_append, List.any_map, List.any_map]
  have : (P.any ((impl_flowOf_has.p v T D) ∘ cF)) = false := by
    rw [Bool.eq_false_iff]
    intro hh
    obtain ⟨y, hy, hs⟩ := List.any_eq_true.1 hh
    have : samL y v T D = true := hs
    have := h y hy
    have := (samL_iff.1 ‹samL y v T D = true›).1
    omega
  rw [this, Bool.false_or]
  rfl
section
variable {p rL rT rD : Int} {l : List S72} (h : measB p rL rT rD l = true)
include h
theorem impl_flow_l1 {v : Int} (hv : rL ≤ v) (hv6 : v ≤ 6) {P : List S72} (hP : ∀ y ∈ P, y.f0.f0 < v) (hPl : P.length ≤ 1000000) {b : Bool} {r : List S63 × Bool}
    (hn : Ev (fun k => impl_flowOf.l0 k p ((P ++ lvN p v l l.length).map cF) (b && (lvN p v l l.length).all wB) (v + 1) rL rT rD l) r) :
    Ev (fun k => impl_flowOf.l1 k p ((P ++ lvN p v l 0).map cF) (b && (lvN p v l 0).all wB) v l l.length (0 : Nat) rL rT rD l) r := by
  obtain ⟨hr, hlen, hg⟩ := measB_parts h
  obtain ⟨hp, hL, _⟩ := ball_parts hr
  have key : ∀ (d i : Nat), i + d = l.length → Ev (fun k => impl_flowOf.l1 k p ((P ++ lvN p v l i).map cF) (b && (lvN p v l i).all wB) v l l.length i rL rT rD l) r := by
    intro d
    induction d with
    | zero =>
      intro i hi
      obtain rfl : i = l.length := by omega
      refine Ev.up ?_
      simp only [impl_flowOf.l1, if_neg (show ¬ (l.length : Int) < (l.length : Int) by omega)]
      rw [wid (n := v + 1) (by omega) (by omega)]
      exact hn
    | succ d ih =>
      intro i hi
      have hnx := ih (i + 1) (by omega)
      obtain ⟨b1, b2, b3, _⟩ := meas_own h (show i < l.length by omega)
      refine Ev.up ?_
      simp only [impl_flowOf.l1]
      simp only [if_pos (show (i : Int) < (l.length : Int) by omega), if_pos (show (0 : Int) ≤ (i : Int) by omega)]
      rw [wid (n := (i : Int) + 1) (by omega) (by omega)]
      by_cases h1 : (l.getD i z72).f0.f0 < v
      · simp only [if_pos (show (rd_T72 l (i : Int)).f0.f0 < v from h1)]
        rw [show lvN p v l (i + 1) = lvN p v l i by rw [lvN, if_pos h1]] at hnx
        exact hnx
      simp only [if_neg (show ¬ (rd_T72 l (i : Int)).f0.f0 < v from h1)]
      simp only [rdP]
      refine Ev.bind (impl_above_ev b1 ⟨by omega, hv6⟩) ?_
      refine Ev.bindv (has_eq hP) ?_
      have eM : markOf p (l.getD i z72).f0.f1 (l.getD i z72).f0.f2 = pM p (l.getD i z72) := rfl
      rw [eM]
      by_cases h2 : ((lvN p v l i).any fun y => samL y v (ofM p v (pM p (l.getD i z72))).2.1 (ofM p v (pM p (l.getD i z72))).2.2) = true
      · rw [show lvN p v l (i + 1) = lvN p v l i by rw [lvN, if_neg h1, if_pos h2]] at hnx
        simp only [if_pos h2]
        exact hnx
      · rw [show lvN p v l (i + 1) = lvN p v l i ++ [⟨upF p v (l.getD i z72), sumB p v (ofM p v (pM p (l.getD i z72))).2.1 (ofM p v (pM p (l.getD i z72))).2.2 l l.length⟩] by rw [lvN, if_neg h1, if_neg h2]] at hnx
        simp only [if_neg h2]
        refine Ev.bind (impl_total_ev hlen.2 (ofM_ball hp ⟨by omega, hv6⟩) (fun j hj => (gB_lv (hg j hj)).2.2)) ?_
        simp only
        have hll := lvN_len p v l i
        have hsz : ((P ++ lvN p v l i).map cF).length < 4398046511104 := by rw [List.length_map, List.length_append]; omega
        rw [← List.append_assoc, List.map_append, List.all_append, ← Bool.and_assoc] at hnx
        cases hx : (b && (lvN p v l i).all wB) with
        | true =>
          rw [hx, Bool.true_and] at hnx
          simp only [if_true]
          refine Ev.bind (impl_isWeight_ev _) ?_
          simp only [if_pos hsz]
          rw [show ([(⟨upF p v (l.getD i z72), sumB p v (ofM p v (pM p (l.getD i z72))).2.1 (ofM p v (pM p (l.getD i z72))).2.2 l l.length⟩ : S72)] : List S72).all wB = decide (-1000000 ≤ sumB p v (ofM p v (pM p (l.getD i z72))).2.1 (ofM p v (pM p (l.getD i z72))).2.2 l l.length ∧ sumB p v (ofM p v (pM p (l.getD i z72))).2.1 (ofM p v (pM p (l.getD i z72))).2.2 l l.length ≤ 1000000) by rw [List.all_cons, List.all_nil, Bool.and_true]; rfl] at hnx
          exact hnx
        | false =>
          rw [hx, Bool.false_and] at hnx
          simp only [Bool.false_eq_true, if_false, if_pos hsz]
          exact hnx
  exact key l.length 0 (by omega)
theorem impl_flowOf_ev : Ev (fun k => impl_flowOf.f k p rL rT rD l) ((flowU p rL l (6 - rL).toNat).map cF, (flowU p rL l (6 - rL).toNat).all wB) := by
  obtain ⟨hr, hlen, hg⟩ := measB_parts h
  obtain ⟨hp, hL, _⟩ := ball_parts hr
  unfold impl_flowOf.f
  rw [wid (n := rL + 1) (by omega) (by omega)]
  have key : ∀ (d m : Nat), m + d = (6 - rL).toNat → Ev (fun k => impl_flowOf.l0 k p ((flowU p rL l m).map cF) ((flowU p rL l m).all wB) (rL + m + 1) rL rT rD l) ((flowU p rL l (6 - rL).toNat).map cF, (flowU p rL l (6 - rL).toNat).all wB) := by
    intro d
    induction d with
    | zero =>
      intro m hm
      obtain rfl : m = (6 - rL).toNat := by omega
      refine Ev.up ?_
      simp only [impl_flowOf.l0, if_neg (show ¬ rL + ((6 - rL).toNat : Int) + 1 ≤ 6 by omega)]
      exact Ev.now _
    | succ d ih =>
      intro m hm
      have hnx := ih (m + 1) (by omega)
      refine Ev.up ?_
      simp only [impl_flowOf.l0, if_pos (show rL + (m : Int) + 1 ≤ 6 by omega)]
      have e : rL + ((m + 1 : Nat) : Int) = rL + m + 1 := by omega
      have q := impl_flow_l1 h (v := rL + m + 1) (by omega) (by omega) (P := flowU p rL l m) (fun y hy => by have := flowU_lv m y hy; omega) (by have := flowU_len p rL l hlen.2 m; omega) (b := (flowU p rL l m).all wB) (r := ((flowU p rL l (6 - rL).toNat).map cF, (flowU p rL l (6 - rL).toNat).all wB)) (by
        rw [show flowU p rL l (m + 1) = flowU p rL l m ++ lvN p (rL + ((m + 1 : Nat) : Int)) l l.length from rfl, e, List.all_append] at hnx
        exact hnx)
      simp only [lvN, List.append_nil, List.all_nil, Bool.and_true] at q
      exact q
  have := key (6 - rL).toNat 0 (by omega)
  simp only [flowU, List.map_nil, List.all_nil, Int.natCast_zero, Int.add_zero] at this
  exact this
theorem spec_flow_l2 {v : Int} (hv : rL ≤ v) (hv6 : v ≤ 6) {x6 : List S63} {x7 x8 : Int} {r : List S63 × Int}
    (hn : Ev (fun k => spec_l08Flow.l4 k p x6 x7 x8 v (lvN p v l l.length) 0 rL rT rD l) r) :
    Ev (fun k => spec_l08Flow.l2 k p x6 x7 x8 v [] (0 : Nat) rL rT rD l) r := by
  obtain ⟨hr, hlen, hg⟩ := measB_parts h
  obtain ⟨hp, hL, _⟩ := ball_parts hr
  have hs := lvN_sorted h hv hv6
  have hsort := spec_l08Sorted_ev (p := p) (l := lvN p v l l.length) (by have := lvN_len p v l l.length; omega) (fun y hy => (lvN_ball h (by omega) hv6 (Nat.le_refl _) y hy).1)
  rw [hs] at hsort
  have key : ∀ (d i : Nat), i + d = l.length → Ev (fun k => spec_l08Flow.l2 k p x6 x7 x8 v (lvN p v l i) i rL rT rD l) r := by
    intro d
    induction d with
    | zero =>
      intro i hi
      obtain rfl : i = l.length := by omega
      refine Ev.up ?_
      simp only [spec_l08Flow.l2, if_neg (show ¬ (l.length : Int) < (l.length : Int) by omega)]
      exact Ev.bind hsort hn
    | succ d ih =>
      intro i hi
      have hnx := ih (i + 1) (by omega)
      obtain ⟨b1, b2, b3, _⟩ := meas_own h (show i < l.length by omega)
      refine Ev.up ?_
      simp only [spec_l08Flow.l2]
      simp only [if_pos (show (i : Int) < (l.length : Int) by omega), if_pos (show (0 : Int) ≤ (i : Int) by omega)]
      by_cases h1 : (l.getD i z72).f0.f0 < v
      · simp only [if_pos (show (rd_T72 l (i : Int)).f0.f0 < v from h1)]
        rw [show lvN p v l (i + 1) = lvN p v l i by rw [lvN, if_pos h1]] at hnx
        rw [wid (n := (i : Int) + 1) (by omega) (by omega)]
        exact hnx
      simp only [if_neg (show ¬ (rd_T72 l (i : Int)).f0.f0 < v from h1)]
      simp only [rdP]
      refine Ev.bind (spec_up_ev b1 ⟨by omega, hv6⟩) ?_
      have eM : markOf p (l.getD i z72).f0.f1 (l.getD i z72).f0.f2 = pM p (l.getD i z72) := rfl
      rw [eM]
      simp only [if_true]
      obtain ⟨T, hT⟩ : ∃ T, T = (ofM p v (pM p (l.getD i z72))).2.1 := ⟨_, rfl⟩
      obtain ⟨D, hD⟩ : ∃ D, D = (ofM p v (pM p (l.getD i z72))).2.2 := ⟨_, rfl⟩
      have hb : ballB p v T D = true := by rw [hT, hD]; exact ofM_ball hp ⟨by omega, hv6⟩
      rw [lvN, if_neg h1, ← hT, ← hD] at hnx
      have hll := lvN_len p v l i
      rw [← hT, ← hD]
      have known : ∀ (d j : Nat), j + d = (lvN p v l i).length → Ev (fun k => spec_l08Flow.l3 k p x6 x7 x8 v (lvN p v l i) i (((lvN p v l i).take j).any fun y => samL y v T D) j rL rT rD l v T D) r := by
        intro d
        induction d with
        | zero =>
          intro j hj
          obtain rfl : j = (lvN p v l i).length := by omega
          refine Ev.up ?_
          simp only [spec_l08Flow.l3, if_neg (show ¬ ((lvN p v l i).length : Int) < ((lvN p v l i).length : Int) by omega)]
          rw [List.take_length, wid (n := (i : Int) + 1) (by omega) (by omega)]
          by_cases h2 : ((lvN p v l i).any fun y => samL y v T D) = true
          · rw [if_pos h2] at hnx
            simp only [if_pos h2]
            exact hnx
          · rw [if_neg h2] at hnx
            simp only [if_neg h2]
            refine Ev.bind (spec_weight_ev hlen.2 hb (fun j hj => (gB_lv (hg j hj)).2.2)) ?_
            simp only [if_pos (show (lvN p v l i).length < 4398046511104 by omega)]
            unfold upF at hnx
            rw [← hT, ← hD] at hnx
            exact hnx
        | succ d ih2 =>
          intro j hj
          have h2 := ih2 (j + 1) (by omega)
          have hjl : j < (lvN p v l i).length := by omega
          refine Ev.up ?_
          simp only [spec_l08Flow.l3, rdP, if_pos (show (j : Int) < ((lvN p v l i).length : Int) by omega), if_pos (show (0 : Int) ≤ (j : Int) by omega)]
          rw [wid (n := (j : Int) + 1) (by omega) (by omega)]
          rw [List.take_succ_eq_append_getElem hjl, List.any_append, List.any_cons, List.any_nil, Bool.or_false] at h2
          have eg : (lvN p v l i).getD j z72 = (lvN p v l i)[j] := by rw [List.getD_eq_getElem?_getD, List.getElem?_eq_getElem hjl]; rfl
          cases hk : ((lvN p v l i).take j).any fun y => samL y v T D with
          | true => rw [hk, Bool.true_or] at h2; simp only [if_true]; exact h2
          | false =>
            rw [hk, Bool.false_or] at h2
            simp only [Bool.false_eq_true, if_false]
            rw [eg]
            exact h2
      have := known (lvN p v l i).length 0 (by omega)
      rw [List.take_zero, List.any_nil] at this
      exact this
  exact key l.length 0 (by omega)
omit h in
theorem spec_flow_l4 {v : Int} (hv6 : v ≤ 6 ∧ -7 ≤ v) {Q : List S72} (hQ : Q.length ≤ 1000000) {P : List S72} (hP : P.length ≤ 1000000) {x7 : Int} {b : Bool} {r : List S63 × Int}
    (hn : Ev (fun k => spec_l08Flow.l1 k p ((P ++ Q).map cF) x7 (if b && Q.all wB then 0 else 3) (v + 1) rL rT rD l) r) :
    Ev (fun k => spec_l08Flow.l4 k p (P.map cF) x7 (if b then 0 else 3) v Q 0 rL rT rD l) r := by
  have key : ∀ (d j : Nat), j + d = Q.length → Ev (fun k => spec_l08Flow.l4 k p ((P ++ Q.take j).map cF) x7 (if b && (Q.take j).all wB then 0 else 3) v Q j rL rT rD l) r := by
    intro d
    induction d with
    | zero =>
      intro j hj
      obtain rfl : j = Q.length := by omega
      refine Ev.up ?_
      simp only [spec_l08Flow.l4, if_neg (show ¬ (Q.length : Int) < (Q.length : Int) by omega)]
      rw [List.take_length, wid (n := v + 1) (by omega) (by omega)]
      exact hn
    | succ d ih =>
      intro j hj
      have h2 := ih (j + 1) (by omega)
      have hjl : j < Q.length := by omega
      have eg : Q.getD j z72 = Q[j] := by rw [List.getD_eq_getElem?_getD, List.getElem?_eq_getElem hjl]; rfl
      have hsz : ((P ++ Q.take j).map cF).length < 4398046511104 := by rw [List.length_map, List.length_append, List.length_take]; omega
      refine Ev.up ?_
      simp only [spec_l08Flow.l4, rdP, if_pos (show (j : Int) < (Q.length : Int) by omega), if_pos (show (0 : Int) ≤ (j : Int) by omega)]
      refine Ev.bindv (In_eq _ _ _) ?_
      rw [wid (n := (j : Int) + 1) (by omega) (by omega), eg]
      simp only [if_pos hsz]
      rw [List.take_succ_eq_append_getElem hjl, ← List.append_assoc, List.map_append, List.all_append, List.all_cons, List.all_nil, Bool.and_true, ← Bool.and_assoc] at h2
      have ew : decide (-1000000 ≤ Q[j].f1 ∧ Q[j].f1 ≤ 1000000) = wB Q[j] := rfl
      rw [ew]
      cases hw : wB Q[j] with
      | true => rw [hw, Bool.and_true] at h2; simp only [if_true]; exact h2
      | false => rw [hw, Bool.and_false] at h2; simp only [Bool.false_eq_true, if_false] at h2 ⊢; exact h2
  have := key Q.length 0 (by omega)
  rw [List.take_zero, List.append_nil, List.all_nil, Bool.and_true] at this
  exact this
theorem spec_l08Flow_ev : Ev (fun k => spec_l08Flow.f k p rL rT rD l) ((flowU p rL l (6 - rL).toNat).map cF, if (flowU p rL l (6 - rL).toNat).all wB then 0 else 3) := by
  obtain ⟨hr, hlen, hg⟩ := measB_parts h
  obtain ⟨hp, hL, _⟩ := ball_parts hr
  obtain ⟨s1, s2, s3⟩ := leastS_bd (rL := rL) (l := l) l.length (fun j hj => by have := meas_own h hj; omega) hL.2
  have hst : flowU p rL l (6 - rL).toNat = flowU p rL l (leastS rL l l.length - rL).toNat := by
    rw [show (6 - rL).toNat = (leastS rL l l.length - rL).toNat + (6 - leastS rL l l.length).toNat by omega]
    exact flowU_stop (fun i hi => by have := s3 i hi; omega) _
  rw [hst]
  have lvs : ∀ (d m : Nat), m + d = (leastS rL l l.length - rL).toNat → Ev (fun k => spec_l08Flow.l1 k p ((flowU p rL l m).map cF) (leastS rL l l.length) (if (flowU p rL l m).all wB then 0 else 3) (rL + m + 1) rL rT rD l) ((flowU p rL l (leastS rL l l.length - rL).toNat).map cF, if (flowU p rL l (leastS rL l l.length - rL).toNat).all wB then 0 else 3) := by
    intro d
    induction d with
    | zero =>
      intro m hm
      obtain rfl : m = (leastS rL l l.length - rL).toNat := by omega
      refine Ev.up ?_
      simp only [spec_l08Flow.l1, if_neg (show ¬ rL + ((leastS rL l l.length - rL).toNat : Int) + 1 ≤ leastS rL l l.length by omega)]
      exact Ev.now _
    | succ d ih =>
      intro m hm
      have hnx := ih (m + 1) (by omega)
      have e : rL + ((m + 1 : Nat) : Int) = rL + m + 1 := by omega
      rw [show flowU p rL l (m + 1) = flowU p rL l m ++ lvN p (rL + ((m + 1 : Nat) : Int)) l l.length from rfl, e, List.all_append] at hnx
      refine Ev.up ?_
      simp only [spec_l08Flow.l1, if_pos (show rL + (m : Int) + 1 ≤ leastS rL l l.length by omega)]
      exact spec_flow_l2 h (by omega) (by omega) (spec_flow_l4 ⟨by omega, by omega⟩ (by have := lvN_len p (rL + m + 1) l l.length; omega) (by have := flowU_len p rL l hlen.2 m; omega) hnx)
  have most : ∀ (d i : Nat), i + d = l.length → Ev (fun k => spec_l08Flow.l0 k p [] (leastS rL l i) 0 i rL rT rD l) ((flowU p rL l (leastS rL l l.length - rL).toNat).map cF, if (flowU p rL l (leastS rL l l.length - rL).toNat).all wB then 0 else 3) := by
    intro d
    induction d with
    | zero =>
      intro i hi
      obtain rfl : i = l.length := by omega
      refine Ev.up ?_
      simp only [spec_l08Flow.l0, if_neg (show ¬ (l.length : Int) < (l.length : Int) by omega)]
      rw [wid (n := rL + 1) (by omega) (by omega)]
      have := lvs _ 0 (Nat.zero_add _)
      simp only [flowU, List.map_nil, List.all_nil, Int.natCast_zero, Int.add_zero, if_true] at this
      exact this
    | succ d ih =>
      intro i hi
      refine Ev.up ?_
      simp only [spec_l08Flow.l0, rdP, if_pos (show (i : Int) < (l.length : Int) by omega), if_pos (show (0 : Int) ≤ (i : Int) by omega)]
      rw [wid (n := (i : Int) + 1) (by omega) (by omega)]
      exact ih (i + 1) (by omega)
  exact most l.length 0 (by omega)
end
def sortW (p : Int) (l : List S72) : List S72 := l.mergeSort fun x y => decide (pM p x ≤ pM p y)
theorem sortW_perm (p : Int) (l : List S72) : (sortW p l).Perm l := List.mergeSort_perm l _
theorem nodup_inj {f : S72 → Int} {l : List S72} (h : (l.map f).Nodup) : ∀ x ∈ l, ∀ y ∈ l, f x = f y → x = y := by
  induction l with
  | nil => intro x hx; cases hx
  | cons a l ih =>
    rw [List.map_cons, List.nodup_cons] at h
    intro x hx y hy e
    rcases List.mem_cons.1 hx with hx1 | hx1 <;> rcases List.mem_cons.1 hy with hy1 | hy1
    · rw [hx1, hy1]
    · exact absurd (List.mem_map.2 ⟨y, hy1, by rw [← e, hx1]⟩) h.1
    · exact absurd (List.mem_map.2 ⟨x, hx1, by rw [e, hy1]⟩) h.1
    · exact ih h.2 x hx1 y hy1 e
theorem posI_split {p : Int} {out : List S72} {x : S72} (hs : out.Pairwise fun a b => pM p a ≤ pM p b) (n : Nat) (hn : n ≤ out.length) (hr : ∀ y ∈ out.drop n, pM p x ≤ pM p y) : (∀ y ∈ out.take (posI p out x n), pM p y ≤ pM p x) ∧ ∀ y ∈ out.drop (posI p out x n), pM p x ≤ pM p y := by
  induction n with
  | zero => exact ⟨fun y hy => by simp [posI] at hy, hr⟩
  | succ n ih =>
    have hd : out.drop n = out.getD n z72 :: out.drop (n + 1) := by
      rw [List.drop_eq_getElem_cons (by omega), List.getD_eq_getElem?_getD, List.getElem?_eq_getElem (by omega)]; rfl
    unfold posI
    by_cases hgt : pM p (out.getD n z72) > pM p x
    · rw [if_pos hgt]
      refine ih (by omega) (fun y hy => ?_)
      rw [hd] at hy
      rcases List.mem_cons.1 hy with rfl | hy
      · omega
      · exact hr y hy
    · rw [if_neg hgt]
      refine ⟨fun y hy => ?_, hr⟩
      obtain ⟨j, hj, rfl⟩ := List.mem_iff_getElem.1 hy
      rw [List.length_take] at hj
      rw [List.getElem_take]
      have e : out[n] = out.getD n z72 := by rw [List.getD_eq_getElem?_getD, List.getElem?_eq_getElem (by omega)]; rfl
      rcases Nat.lt_or_ge j n with hjn | hjn
      · have := List.pairwise_iff_getElem.1 hs j n (by omega) (by omega) hjn
        rw [e] at this
        omega
      · obtain rfl : j = n := by omega
        rw [e]; omega
theorem isortN_sorted (p : Int) (l : List S72) (i : Nat) : (isortN p l i).Pairwise fun a b => pM p a ≤ pM p b := by
  induction i with
  | zero => simp [isortN]
  | succ i ih =>
    unfold isortN insI
    generalize isortN p l i = out at ih
    generalize l.getD i z72 = x
    obtain ⟨h1, h2⟩ := posI_split (x := x) ih out.length (Nat.le_refl _) (fun y hy => by rw [List.drop_of_length_le (Nat.le_refl _)] at hy; cases hy)
    have hsp : (out.take (posI p out x out.length) ++ out.drop (posI p out x out.length)).Pairwise fun a b => pM p a ≤ pM p b := by rw [List.take_append_drop]; exact ih
    rw [List.pairwise_append] at hsp
    rw [List.pairwise_append]
    refine ⟨hsp.1, List.pairwise_cons.2 ⟨h2, hsp.2.1⟩, fun a ha b hb => ?_⟩
    rcases List.mem_cons.1 hb with rfl | hb
    · exact h1 a ha
    · exact hsp.2.2 a ha b hb
theorem isortN_sortW {p : Int} {l : List S72} (hnd : (l.map (pM p)).Nodup) : isortN p l l.length = sortW p l := by
  refine List.Perm.eq_of_pairwise (le := fun a b => pM p a ≤ pM p b) ?_ (isortN_sorted p l _) ?_ ?_
  · intro a b ha hb h1 h2
    exact nodup_inj hnd a (isortN_mem (Nat.le_refl _) ha) b ((sortW_perm p l).mem_iff.1 hb) (by omega)
  · have := List.pairwise_mergeSort (le := fun x y : S72 => decide (pM p x ≤ pM p y)) (fun a b c h1 h2 => by simp only [decide_eq_true_eq] at *; omega) (fun a b => by simp only [Bool.or_eq_true, decide_eq_true_eq]; omega) l
    exact this.imp (fun h => of_decide_eq_true h)
  · have h := isortN_perm p l l.length (Nat.le_refl _)
    rw [List.take_of_length_le (Nat.le_refl _)] at h
    exact h.trans (sortW_perm p l).symm
theorem perm_unique {p : Int} {a b : List S72} (hp : a.Perm b) (ha : a.Pairwise fun x y => pM p x ≤ pM p y) (hb : b.Pairwise fun x y => pM p x ≤ pM p y) (hnd : (b.map (pM p)).Nodup) : a = b := by
  refine List.Perm.eq_of_pairwise (le := fun a b => pM p a ≤ pM p b) ?_ ha hb hp
  intro x y hx hy h1 h2
  exact nodup_inj hnd x (hp.mem_iff.1 hx) y hy (by omega)
theorem sortW_asc (p : Int) (l : List S72) : (sortW p l).Pairwise fun x y => pM p x ≤ pM p y := by
  have := List.pairwise_mergeSort (le := fun x y : S72 => decide (pM p x ≤ pM p y)) (fun a b c h1 h2 => by simp only [decide_eq_true_eq] at *; omega) (fun a b => by simp only [Bool.or_eq_true, decide_eq_true_eq]; omega) l
  exact this.imp (fun h => of_decide_eq_true h)
theorem impl_sorted_any {p rL rT rD : Int} {l : List S72} (hl0 : 0 < l.length) (hl : l.length ≤ 1048576) (hb : ∀ x ∈ l, pB p x = true) : ∃ q, Ev (fun k => impl_sorted.f k p rL rT rD l) (rL, rT, rD, q) ∧ q.Perm l ∧ q.Pairwise fun x y => pM p x ≤ pM p y := by
  obtain ⟨K, hK⟩ := Ev.all (g := fun k (x : S72) => impl_mark.f k p x.f0.f0 x.f0.f1 x.f0.f2) (r := fun x => pM p x) l (fun x hx => impl_mark_ev (hb x hx))
  have hkey : ∀ k, K ≤ k → ∀ x ∈ l, impl_sorted.key k p x = pM p x := fun k hk x hx => by unfold impl_sorted.key; rw [hK k hk x hx]; rfl
  have hcf : ∀ k, K ≤ k → impl_sorted.cf k p l = impl_sorted.cf K p l := fun k hk => by
    funext x y
    unfold impl_sorted.cf
    rw [hkey k hk _ x.2, hkey k hk _ y.2, hkey K (Nat.le_refl _) _ x.2, hkey K (Nat.le_refl _) _ y.2]
  obtain ⟨h1, h2⟩ := impl_sorted.told K p l
  refine ⟨impl_sorted.srt K p l, ⟨K, fun k hk => ?_⟩, h1, ?_⟩
  · unfold impl_sorted.f
    show (if _ then some _ else none) = some _
    rw [if_pos ⟨⟨hl0, by omega⟩, List.all_eq_true.2 fun x hx => by rw [hK k hk x hx]; rfl⟩]
    have : impl_sorted.srt k p l = impl_sorted.srt K p l := by unfold impl_sorted.srt; rw [hcf k hk]
    rw [this]
  · refine h2.imp_of_mem ?_
    intro x y hx hy h
    rwa [hkey K (Nat.le_refl _) x (h1.mem_iff.1 hx), hkey K (Nat.le_refl _) y (h1.mem_iff.1 hy)] at h
theorem rdF (l : List S63) (i : Nat) : rd_T63 l (i : Int) = l.getD i z63 := rfl
def cP (x : S63) : S72 := ⟨x.f0, x.f1⟩
def fB (p : Int) (x : S63) : Bool := ballB p x.f0.f0 x.f0.f1 x.f0.f2
def sF (x y : S63) : Bool := x.f0.f0 == y.f0.f0 && (x.f0.f1 == y.f0.f1 && x.f0.f2 == y.f0.f2)
def hF (p : Int) (x y : S63) : Bool := holdsB p x.f0.f0 x.f0.f1 x.f0.f2 y.f0.f0 y.f0.f1 y.f0.f2
def ovB (p : Int) (f x : S63) : Bool := !sF x f && hF p f x
theorem sF_iff {x y : S63} : sF x y = true ↔ x.f0 = y.f0 := by
  unfold sF
  simp only [Bool.and_eq_true, beq_iff_eq]
  obtain ⟨⟨a, b, c⟩, d⟩ := x
  obtain ⟨⟨a2, b2, c2⟩, d2⟩ := y
  simp only
  constructor
  · rintro ⟨rfl, rfl, rfl⟩; rfl
  · intro h; injection h with h1 h2 h3; exact ⟨h1, h2, h3⟩
theorem gF_mem {l : List S63} {i : Nat} (h : i < l.length) : l.getD i z63 ∈ l := by
  rw [List.getD_eq_getElem?_getD, List.getElem?_eq_getElem h]; exact List.getElem_mem h
def leafI (p : Int) (l : List S63) (i : Nat) : Bool := !(l.any (ovB p (l.getD i z63)))
def leafS (p : Int) (l : List S63) (i : Nat) : Bool := (List.range l.length).all fun k => decide (i = k) || !hF p (l.getD i z63) (l.getD k z63)
def selN (f : Nat → Bool) (l : List S63) : Nat → List S72
  | 0 => []
  | n + 1 => if f n then selN f l n ++ [cP (l.getD n z63)] else selN f l n
theorem selN_len (f : Nat → Bool) (l : List S63) (n : Nat) : (selN f l n).length ≤ n := by
  induction n with
  | zero => exact Nat.le_refl _
  | succ n ih =>
    unfold selN
    split
    · rw [List.length_append]; simp; omega
    · omega
theorem selN_mem {f : Nat → Bool} {l : List S63} (n : Nat) : ∀ y ∈ selN f l n, ∃ i, i < n ∧ f i = true ∧ y = cP (l.getD i z63) := by
  induction n with
  | zero => intro y hy; exact absurd hy List.not_mem_nil
  | succ n ih =>
    intro y hy
    unfold selN at hy
    by_cases h : f n = true
    · rw [if_pos h] at hy
      rcases List.mem_append.1 hy with hy | hy
      · obtain ⟨i, hi, h2⟩ := ih y hy; exact ⟨i, by omega, h2⟩
      · exact ⟨n, by omega, h, List.mem_singleton.1 hy⟩
    · rw [if_neg h] at hy
      obtain ⟨i, hi, h2⟩ := ih y hy; exact ⟨i, by omega, h2⟩
theorem selN_in {f : Nat → Bool} {l : List S63} (n : Nat) : ∀ i, i < n → f i = true → cP (l.getD i z63) ∈ selN f l n := by
  induction n with
  | zero => intro i hi; omega
  | succ n ih =>
    intro i hi hf
    unfold selN
    by_cases h : f n = true
    · rw [if_pos h]
      rcases Nat.lt_or_ge i n with hl | hl
      · exact List.mem_append_left _ (ih i hl hf)
      · have : i = n := by omega
        subst this
        exact List.mem_append_right _ (List.mem_singleton.2 rfl)
    · rw [if_neg h]
      rcases Nat.lt_or_ge i n with hl | hl
      · exact ih i hl hf
      · have : i = n := by omega
        subst this
        exact absurd hf h
theorem selN_congr {f g : Nat → Bool} (l : List S63) (n : Nat) (h : ∀ i, i < n → f i = g i) : selN f l n = selN g l n := by
  induction n with
  | zero => rfl
  | succ n ih => unfold selN; rw [ih (fun i hi => h i (by omega)), h n (by omega)]
theorem selN_nodup {p : Int} {f : Nat → Bool} {l : List S63} (n : Nat) : ((selN f l n).map (pM p)).Nodup ↔ ∀ i j, i < j → j < n → f i = true → f j = true → pM p (cP (l.getD i z63)) ≠ pM p (cP (l.getD j z63)) := by
  induction n with
  | zero => exact ⟨fun _ i j _ hj => absurd hj (Nat.not_lt_zero _), fun _ => List.nodup_nil⟩
  | succ n ih =>
    unfold selN
    by_cases h : f n = true
    · rw [if_pos h, List.map_append, List.nodup_append, ih]
      constructor
      · rintro ⟨h1, _, h3⟩ i j hij hj hi' hj'
        rcases Nat.lt_or_ge j n with hl | hl
        · exact h1 i j hij hl hi' hj'
        · have : j = n := by omega
          subst this
          exact h3 _ (List.mem_map.2 ⟨_, selN_in j i hij hi', rfl⟩) _ (by simp)
      · intro h1
        refine ⟨fun i j hij hj => h1 i j hij (by omega), by simp, ?_⟩
        intro a ha b hb
        obtain ⟨y, hy, rfl⟩ := List.mem_map.1 ha
        obtain ⟨i, hi, hf, rfl⟩ := selN_mem n y hy
        simp only [List.map_cons, List.map_nil, List.mem_singleton] at hb
        rw [hb]
        exact h1 i n hi (by omega) hf h
    · rw [if_neg h, ih]
      constructor
      · intro h1 i j hij hj hi' hj'
        rcases Nat.lt_or_ge j n with hl | hl
        · exact h1 i j hij hl hi' hj'
        · have : j = n := by omega
          subst this
          exact absurd hj' h
      · exact fun h1 i j hij hj => h1 i j hij (by omega)
theorem leaf_at {p : Int} {l : List S63} {i : Nat} (h : leafI p l i = true) {x : S63} (hx : x ∈ l) (hh : hF p (l.getD i z63) x = true) : x.f0 = (l.getD i z63).f0 := by
  unfold leafI at h
  rw [Bool.not_eq_true'] at h
  have := List.any_eq_false.1 h x hx
  unfold ovB at this
  rw [hh, Bool.and_true] at this
  cases hs : sF x (l.getD i z63) with
  | true => exact sF_iff.1 hs
  | false => rw [hs] at this; exact absurd rfl this
theorem leaf_same {p : Int} {l : List S63} {i j : Nat} (h : (l.getD i z63).f0 = (l.getD j z63).f0) : leafI p l i = leafI p l j := by
  unfold leafI
  congr 2
  funext x
  unfold ovB sF hF
  rw [h]
theorem leafS_I {p : Int} {l : List S63} {i : Nat} (h : leafS p l i = true) : leafI p l i = true := by
  unfold leafI
  rw [Bool.not_eq_true', List.any_eq_false]
  intro x hx ho
  obtain ⟨k, hk, rfl⟩ := List.mem_iff_getElem.1 hx
  have ek : l.getD k z63 = l[k] := by rw [List.getD_eq_getElem?_getD, List.getElem?_eq_getElem hk]; rfl
  unfold ovB at ho
  rw [Bool.and_eq_true, Bool.not_eq_true'] at ho
  have := List.all_eq_true.1 h k (List.mem_range.2 hk)
  rw [ek, ho.2, Bool.not_true, Bool.or_false, decide_eq_true_eq] at this
  subst this
  rw [← ek] at ho
  have e : sF (l.getD i z63) (l.getD i z63) = true := sF_iff.2 rfl
  rw [e] at ho
  cases ho.1
section
variable {p : Int} {l : List S63} (hb : ∀ x ∈ l, fB p x = true)
include hb
theorem leaf_mark {i j : Nat} (hi : i < l.length) (hj : j < l.length) (h1 : leafI p l i = true) (h2 : leafI p l j = true) (he : pM p (cP (l.getD i z63)) = pM p (cP (l.getD j z63))) : (l.getD i z63).f0 = (l.getD j z63).f0 := by
  have e : markOf p (l.getD i z63).f0.f1 (l.getD i z63).f0.f2 = markOf p (l.getD j z63).f0.f1 (l.getD j z63).f0.f2 := he
  rcases Int.le_total (l.getD i z63).f0.f0 (l.getD j z63).f0.f0 with hle | hle
  · exact (leaf_at h1 (gF_mem hj) (by unfold hF; rw [holds_dvd, e]; exact ⟨hle, by rw [Int.sub_self]; exact Int.dvd_zero _⟩)).symm
  · exact leaf_at h2 (gF_mem hi) (by unfold hF; rw [holds_dvd, e]; exact ⟨hle, by rw [Int.sub_self]; exact Int.dvd_zero _⟩)
theorem leaf_eq (hnd : ((selN (leafI p l) l l.length).map (pM p)).Nodup) : selN (leafS p l) l l.length = selN (leafI p l) l l.length := by
  refine selN_congr l l.length fun i hi => ?_
  cases hs : leafS p l i with
  | true => exact (leafS_I hs).symm
  | false =>
    cases hI : leafI p l i with
    | false => rfl
    | true =>
      exfalso
      unfold leafS at hs
      obtain ⟨k, hk, h2⟩ := List.all_eq_false.1 hs
      have hk' := List.mem_range.1 hk
      rw [Bool.not_eq_true, Bool.or_eq_false_iff, decide_eq_false_iff_not, Bool.not_eq_false'] at h2
      have hsame := leaf_at hI (gF_mem hk') h2.2
      have hIk : leafI p l k = true := by rw [leaf_same (p := p) hsame]; exact hI
      have em : pM p (cP (l.getD k z63)) = pM p (cP (l.getD i z63)) := by
        show markOf p _ _ = markOf p _ _
        have : (cP (l.getD k z63)).f0 = (cP (l.getD i z63)).f0 := hsame
        rw [this]
      rcases Nat.lt_trichotomy i k with h | h | h
      · exact (selN_nodup l.length).1 hnd i k h hk' hI hIk em.symm
      · exact h2.1 h
      · exact (selN_nodup l.length).1 hnd k i h hi hIk hI em
theorem leaf_twice (hnd : ¬ ((selN (leafI p l) l l.length).map (pM p)).Nodup) : ¬ (l.map (·.f0)).Nodup := by
  intro hn
  refine hnd ((selN_nodup l.length).2 fun i j hij hj hi' hj' e => ?_)
  have := leaf_mark hb (by omega) hj hi' hj' e
  rw [List.Nodup, List.pairwise_map, List.pairwise_iff_getElem] at hn
  have h2 := hn i j (by omega) hj hij
  rw [List.getD_eq_getElem?_getD, List.getElem?_eq_getElem (by omega), List.getD_eq_getElem?_getD, List.getElem?_eq_getElem hj] at this
  exact h2 this
theorem leaf_some (h0 : 0 < l.length) : 0 < (selN (leafI p l) l l.length).length := by
  have hmax : ∀ n, 0 < n → n ≤ l.length → ∃ i, i < n ∧ ∀ j, j < n → (l.getD j z63).f0.f0 ≤ (l.getD i z63).f0.f0 := by
    intro n
    induction n with
    | zero => intro h; omega
    | succ n ih =>
      intro _ hn
      rcases Nat.eq_zero_or_pos n with h | h
      · subst h; exact ⟨0, by omega, fun j hj => by have : j = 0 := by omega
                                                    subst this; exact Int.le_refl _⟩
      · obtain ⟨i, hi, hm⟩ := ih h (by omega)
        rcases Int.le_total (l.getD n z63).f0.f0 (l.getD i z63).f0.f0 with hle | hle
        · refine ⟨i, by omega, fun j hj => ?_⟩
          rcases Nat.lt_or_ge j n with h2 | h2
          · exact hm j h2
          · have : j = n := by omega
            subst this; exact hle
        · refine ⟨n, by omega, fun j hj => ?_⟩
          rcases Nat.lt_or_ge j n with h2 | h2
          · exact Int.le_trans (hm j h2) hle
          · have : j = n := by omega
            subst this; exact Int.le_refl _
  obtain ⟨i, hi, hm⟩ := hmax l.length h0 (Nat.le_refl _)
  have hbi := hb _ (gF_mem hi)
  have hp2 := prime_lo (ball_parts hbi).1
  refine List.length_pos_of_mem (selN_in l.length i hi ?_)
  unfold leafI
  rw [Bool.not_eq_true', List.any_eq_false]
  intro x hx ho
  obtain ⟨k, hk, rfl⟩ := List.mem_iff_getElem.1 hx
  have ek : l.getD k z63 = l[k] := by rw [List.getD_eq_getElem?_getD, List.getElem?_eq_getElem hk]; rfl
  rw [← ek] at ho
  have hbk := hb _ (gF_mem hk)
  unfold ovB at ho
  rw [Bool.and_eq_true, Bool.not_eq_true'] at ho
  obtain ⟨o1, o2⟩ := ho
  unfold hF at o2
  have o3 := (holds_dvd.1 o2).1
  have hL : (l.getD k z63).f0.f0 = (l.getD i z63).f0.f0 := by have := hm k hk; omega
  have hoff := (holds_iff (T' := (l.getD k z63).f0.f1) (D' := (l.getD k z63).f0.f2) hbi).2 (Int.emod_eq_zero_of_dvd (holds_dvd.1 o2).2)
  have hk2 := ofM_mark hbk
  rw [hL] at hk2
  rw [hk2] at hoff
  simp only [Prod.mk.injEq, true_and] at hoff
  unfold sF at o1
  rw [hL, hoff.1, hoff.2, beq_self_eq_true, beq_self_eq_true, beq_self_eq_true] at o1
  cases o1
end
theorem meas_nodup {p rL rT rD : Int} {q : List S72} (h : measB p rL rT rD q = true) : (q.map (pM p)).Nodup := by
  rw [List.Nodup, List.pairwise_map, List.pairwise_iff_getElem]
  intro i j hi hj hij
  have := meas_asc h j hj i hij
  rw [List.getD_eq_getElem?_getD, List.getElem?_eq_getElem hi, List.getD_eq_getElem?_getD, List.getElem?_eq_getElem hj] at this
  have : pM p q[i] < pM p q[j] := this
  omega
theorem flowU_nodup {p rL rT rD : Int} {q : List S72} (h : measB p rL rT rD q = true) (m : Nat) (hm : rL + m ≤ 6) : (((flowU p rL q m).map cF).map (·.f0)).Nodup := by
  obtain ⟨hr, _, _⟩ := measB_parts h
  obtain ⟨_, hL, _⟩ := ball_parts hr
  rw [List.map_map]
  show ((flowU p rL q m).map (·.f0)).Nodup
  induction m with
  | zero => exact List.nodup_nil
  | succ m ih =>
    unfold flowU
    rw [List.map_append, List.nodup_append]
    refine ⟨ih (by omega), ?_, ?_⟩
    · rw [List.Nodup, List.pairwise_map]
      refine (lvN_asc h (v := rL + (m + 1 : Nat)) (by omega) (by omega) q.length (Nat.le_refl _)).2.imp ?_
      intro a b hab e
      have : pM p a = pM p b := by unfold pM; rw [e]
      omega
    · intro a ha b hb e
      obtain ⟨x, hx, rfl⟩ := List.mem_map.1 ha
      obtain ⟨y, hy, rfl⟩ := List.mem_map.1 hb
      have h1 := flowU_lv m x hx
      obtain ⟨i, _, _, rfl⟩ := lvN_in _ y hy
      rw [e] at h1
      have : rL + ((m + 1 : Nat) : Int) ≤ rL + m := h1
      omega
def eqE (x y : S63) : Bool := (x.f0.f0 == y.f0.f0 && (x.f0.f1 == y.f0.f1 && x.f0.f2 == y.f0.f2)) && x.f1 == y.f1
theorem eqE_iff {x y : S63} : eqE x y = true ↔ x = y := by
  unfold eqE
  rw [Bool.and_eq_true, beq_iff_eq]
  obtain ⟨a, b⟩ := x
  obtain ⟨c, d⟩ := y
  constructor
  · rintro ⟨h1, rfl⟩
    have : a = c := sF_iff (x := ⟨a, b⟩) (y := ⟨c, b⟩) |>.1 h1
    rw [this]
  · intro h; injection h with h1 h2; subst h1; subst h2
    exact ⟨sF_iff (x := ⟨a, b⟩) (y := ⟨a, b⟩) |>.2 rfl, rfl⟩
def eqL (a b : List S63) : Bool := (a.length == b.length) && (List.range a.length).all fun i => eqE (a.getD i z63) (b.getD i z63)
theorem eqL_iff {a b : List S63} : eqL a b = true ↔ a = b := by
  unfold eqL
  rw [Bool.and_eq_true, beq_iff_eq, List.all_eq_true]
  constructor
  · rintro ⟨h1, h2⟩
    refine List.ext_getElem h1 fun i hi hj => ?_
    have := eqE_iff.1 (h2 i (List.mem_range.2 hi))
    rwa [List.getD_eq_getElem?_getD, List.getElem?_eq_getElem hi, List.getD_eq_getElem?_getD, List.getElem?_eq_getElem hj] at this
  · rintro rfl; exact ⟨rfl, fun i _ => eqE_iff.2 rfl⟩
theorem impl_Equal_ev {a b : List S63} (ha : a.length ≤ 4611686018427387904) : Ev (fun k => slices_Equal_impl_Flow.f k a b) (eqL a b) := by
  unfold slices_Equal_impl_Flow.f eqL
  by_cases h : (a.length : Int) = (b.length : Int)
  · simp only [if_pos h]
    have hl : a.length = b.length := by omega
    rw [show (a.length == b.length) = true from beq_iff_eq.2 hl, Bool.true_and]
    have := all_ev' (fun k i => slices_Equal_impl_Flow.l0 k a b a.length i) a.length (fun i => eqE (a.getD i z63) (b.getD i z63)) true false (fun i r hi hp hr => by
        refine Ev.up ?_
        simp only [slices_Equal_impl_Flow.l0]
        simp only [if_pos (show (i : Int) < (a.length : Int) by omega), if_pos (show (0 : Int) ≤ (i : Int) by omega), if_pos (show (i : Int) < (b.length : Int) by omega)]
        have e : (!((rd_T63 a (i : Int)).f0.f0 == (rd_T63 b (i : Int)).f0.f0) || (!((rd_T63 a (i : Int)).f0.f1 == (rd_T63 b (i : Int)).f0.f1) || !((rd_T63 a (i : Int)).f0.f2 == (rd_T63 b (i : Int)).f0.f2)) || !((rd_T63 a (i : Int)).f1 == (rd_T63 b (i : Int)).f1)) = !eqE (a.getD i z63) (b.getD i z63) := by
          rw [rdF, rdF]
          unfold eqE
          simp only [Bool.not_and]
        rw [hp] at e
        simp only [e, Bool.not_true, Bool.false_eq_true, if_false]
        rw [wid (n := (i : Int) + 1) (by omega) (by omega)]
        exact hr) (fun i hi hp => by
        refine Ev.up ?_
        simp only [slices_Equal_impl_Flow.l0]
        simp only [if_pos (show (i : Int) < (a.length : Int) by omega), if_pos (show (0 : Int) ≤ (i : Int) by omega), if_pos (show (i : Int) < (b.length : Int) by omega)]
        have e : (!((rd_T63 a (i : Int)).f0.f0 == (rd_T63 b (i : Int)).f0.f0) || (!((rd_T63 a (i : Int)).f0.f1 == (rd_T63 b (i : Int)).f0.f1) || !((rd_T63 a (i : Int)).f0.f2 == (rd_T63 b (i : Int)).f0.f2)) || !((rd_T63 a (i : Int)).f1 == (rd_T63 b (i : Int)).f1)) = !eqE (a.getD i z63) (b.getD i z63) := by
          rw [rdF, rdF]
          unfold eqE
          simp only [Bool.not_and]
        rw [hp] at e
        simp only [e, Bool.not_false, if_true]
        exact Ev.now _) (by
        refine Ev.up ?_
        simp only [slices_Equal_impl_Flow.l0, if_neg (show ¬ (a.length : Int) < (a.length : Int) by omega)]
        exact Ev.now _)
    rw [ite_tf] at this
    exact this
  · simp only [if_neg h]
    rw [show (a.length == b.length) = false from beq_eq_false_iff_ne.2 (by omega), Bool.false_and]
    exact Ev.now _
def mend (p rL rT rD : Int) (l : List S63) (q : List S72) : Int × Int × Int × List S72 × Int :=
  if measB p rL rT rD q = true then (if eqL ((flowU p rL q (6 - rL).toNat).map cF) l = true then (if (flowU p rL q (6 - rL).toNat).all wB = true then (rL, rT, rD, q, 0) else (0, 0, 0, [], 3)) else (0, 0, 0, [], 5)) else (0, 0, 0, [], 5)
section
variable {p rL rT rD : Int} {l : List S63} (hb : ∀ x ∈ l, fB p x = true) (hl : l.length ≤ 1048576)
include hb hl
theorem impl_mf_l1 (h0 : 0 < l.length) {r : Int × Int × Int × List S72 × Int}
    (hn : Ev (fun k => (impl_sorted.f k p rL rT rD (selN (leafI p l) l l.length)).bind fun bt444 => ((impl_IsMeasure.f k p bt444.1 bt444.2.1 bt444.2.2.1 bt444.2.2.2).bind fun t451 => (if t451 = true then ((impl_flowOf.f k p bt444.1 bt444.2.1 bt444.2.2.1 bt444.2.2.2).bind fun bt452 => ((slices_Equal_impl_Flow.f k bt452.1 l).bind fun t456 => (if t456 = true then (if bt452.2 = true then (some (bt444.1, bt444.2.1, bt444.2.2.1, bt444.2.2.2, 0)) else (some (0, 0, 0, ([] : List S72), 3))) else (some (0, 0, 0, ([] : List S72), 5))))) else (some (0, 0, 0, ([] : List S72), 5))))) r) :
    Ev (fun k => impl_MeasureOfFlow.l1 k l [] l l.length 0 p rL rT rD) r := by
  have key : ∀ (d i : Nat), i + d = l.length → Ev (fun k => impl_MeasureOfFlow.l1 k l (selN (leafI p l) l i) l l.length i p rL rT rD) r := by
    intro d
    induction d with
    | zero =>
      intro i hi
      obtain rfl : i = l.length := by omega
      refine Ev.up ?_
      simp only [impl_MeasureOfFlow.l1, if_neg (show ¬ (l.length : Int) < (l.length : Int) by omega)]
      exact hn
    | succ d ih =>
      intro i hi
      have hil : i < l.length := by omega
      have hnx := ih (i + 1) (by omega)
      have hover : Ev (fun k => impl_MeasureOfFlow_over.f k l (l.getD i z63).f0.f0 (l.getD i z63).f0.f1 (l.getD i z63).f0.f2 (l.getD i z63).f1 p) (l.any (ovB p (l.getD i z63))) := by
        obtain ⟨K, hK⟩ := Ev.all (g := fun k (x : S63) => impl_holds.f k p (l.getD i z63).f0.f0 (l.getD i z63).f0.f1 (l.getD i z63).f0.f2 x.f0.f0 x.f0.f1 x.f0.f2) (r := fun x => hF p (l.getD i z63) x) l (fun x hx => impl_holds_ev (hb _ (gF_mem hil)) (hb x hx))
        refine ⟨K, fun k hk => ?_⟩
        have h := hK k hk
        unfold impl_MeasureOfFlow_over.f
        show (if _ then some _ else none) = some _
        rw [if_pos ⟨h0, List.all_eq_true.2 fun x hx => by rw [h x hx]; rfl⟩]
        congr 1
        rw [Bool.eq_iff_iff, List.any_eq_true, List.any_eq_true]
        have e : ∀ x ∈ l, impl_MeasureOfFlow_over.p k (l.getD i z63).f0.f0 (l.getD i z63).f0.f1 (l.getD i z63).f0.f2 p x = ovB p (l.getD i z63) x := fun x hx => by unfold impl_MeasureOfFlow_over.p; rw [h x hx]; rfl
        constructor
        · rintro ⟨x, hx, hp⟩; exact ⟨x, hx, by rw [← e x hx]; exact hp⟩
        · rintro ⟨x, hx, hp⟩; exact ⟨x, hx, by rw [e x hx]; exact hp⟩
      refine Ev.up ?_
      simp only [impl_MeasureOfFlow.l1, rdF]
      simp only [if_pos (show (i : Int) < (l.length : Int) by omega), if_pos (show (0 : Int) ≤ (i : Int) by omega)]
      refine Ev.bind hover ?_
      rw [wid (n := (i : Int) + 1) (by omega) (by omega)]
      have hsl := selN_len (leafI p l) l i
      cases ho : l.any (ovB p (l.getD i z63)) with
      | true =>
        rw [selN, show leafI p l i = false by unfold leafI; rw [ho]; rfl] at hnx
        simp only [if_true]
        exact hnx
      | false =>
        rw [selN, show leafI p l i = true by unfold leafI; rw [ho]; rfl, if_pos rfl] at hnx
        simp only [Bool.false_eq_true, if_false, if_pos (show (selN (leafI p l) l i).length < 4398046511104 by omega)]
        exact hnx
  exact key l.length 0 (by omega)
omit hb in
theorem impl_mf_end {q : List S72} (hs : Ev (fun k => impl_sorted.f k p rL rT rD (selN (leafI p l) l l.length)) (rL, rT, rD, q)) (hq : q.length ≤ 1048576) :
    Ev (fun k => (impl_sorted.f k p rL rT rD (selN (leafI p l) l l.length)).bind fun bt444 => ((impl_IsMeasure.f k p bt444.1 bt444.2.1 bt444.2.2.1 bt444.2.2.2).bind fun t451 => (if t451 = true then ((impl_flowOf.f k p bt444.1 bt444.2.1 bt444.2.2.1 bt444.2.2.2).bind fun bt452 => ((slices_Equal_impl_Flow.f k bt452.1 l).bind fun t456 => (if t456 = true then (if bt452.2 = true then (some (bt444.1, bt444.2.1, bt444.2.2.1, bt444.2.2.2, 0)) else (some (0, 0, 0, ([] : List S72), 3))) else (some (0, 0, 0, ([] : List S72), 5))))) else (some (0, 0, 0, ([] : List S72), 5))))) (mend p rL rT rD l q) := by
  refine Ev.bind hs (Ev.bind (impl_IsMeasure_ev (l := q) (by omega)) ?_)
  unfold mend
  cases hm : measB p rL rT rD q with
  | false => simp only [Bool.false_eq_true, if_false]; exact Ev.now _
  | true =>
    obtain ⟨hr, hlen, _⟩ := measB_parts hm
    obtain ⟨_, hL, _⟩ := ball_parts hr
    simp only [if_true]
    refine Ev.bind (impl_flowOf_ev hm) (Ev.bind (impl_Equal_ev (by rw [List.length_map]; have := flowU_len p rL q hlen.2 (6 - rL).toNat; omega)) ?_)
    cases eqL ((flowU p rL q (6 - rL).toNat).map cF) l with
    | false => simp only [Bool.false_eq_true, if_false]; exact Ev.now _
    | true =>
      simp only [if_true]
      cases (flowU p rL q (6 - rL).toNat).all wB with
      | false => simp only [Bool.false_eq_true, if_false]; exact Ev.now _
      | true => simp only [if_true]; exact Ev.now _
omit hb in
theorem spec_mf_l3 (own : List S63) (ho : own.length ≤ 1048576) (q : List S72) (c : Int) (r : Int × Int × Int × List S72 × Int) (hj : Ev (fun k => spec_MeasureOfFlow.j4 k c (eqL own l) rL rT rD q) r) :
    Ev (fun k => spec_MeasureOfFlow.l3 k l own c ((own.length : Int) == (l.length : Int)) 0 rL rT rD q) r := by
  have stop : ∀ i : Int, eqL own l = false → Ev (fun k => spec_MeasureOfFlow.l3 k l own c false i rL rT rD q) r := fun i he => by
    rw [he] at hj
    refine Ev.up ?_
    simp only [spec_MeasureOfFlow.l3, Bool.false_eq_true, if_false, ite_self]
    exact hj
  by_cases hlen : own.length = l.length
  · rw [show ((own.length : Int) == (l.length : Int)) = true from beq_iff_eq.2 (by omega)]
    have key : ∀ (d i : Nat), i + d = own.length → ((List.range i).all fun j => eqE (own.getD j z63) (l.getD j z63)) = true → Ev (fun k => spec_MeasureOfFlow.l3 k l own c true i rL rT rD q) r := by
      intro d
      induction d with
      | zero =>
        intro i hi ha
        obtain rfl : i = own.length := by omega
        have he : eqL own l = true := by unfold eqL; rw [ha, Bool.and_true]; exact beq_iff_eq.2 hlen
        rw [he] at hj
        refine Ev.up ?_
        simp only [spec_MeasureOfFlow.l3, if_neg (show ¬ (own.length : Int) < (own.length : Int) by omega)]
        exact hj
      | succ d ih =>
        intro i hi ha
        refine Ev.up ?_
        simp only [spec_MeasureOfFlow.l3, rdF]
        simp only [if_pos (show (i : Int) < (own.length : Int) by omega), if_true, if_pos (show (0 : Int) ≤ (i : Int) by omega), if_pos (show (i : Int) < (l.length : Int) by omega)]
        rw [wid (n := (i : Int) + 1) (by omega) (by omega)]
        have e : (((own.getD i z63).f0.f0 == (l.getD i z63).f0.f0 && ((own.getD i z63).f0.f1 == (l.getD i z63).f0.f1 && (own.getD i z63).f0.f2 == (l.getD i z63).f0.f2)) && (own.getD i z63).f1 == (l.getD i z63).f1) = eqE (own.getD i z63) (l.getD i z63) := rfl
        rw [e]
        cases he : eqE (own.getD i z63) (l.getD i z63) with
        | true =>
          refine ih (i + 1) (by omega) ?_
          rw [List.range_succ, List.all_append, ha, Bool.true_and, List.all_cons, List.all_nil, Bool.and_true]
          exact he
        | false =>
          refine stop _ ?_
          rw [Bool.eq_false_iff]
          intro h
          have := (eqL_iff.1 h)
          rw [this, eqE_iff.2 rfl] at he
          cases he
    exact key own.length 0 (by omega) rfl
  · rw [show ((own.length : Int) == (l.length : Int)) = false from beq_eq_false_iff_ne.2 (by omega)]
    refine stop 0 ?_
    rw [Bool.eq_false_iff]
    intro h
    exact hlen (by rw [eqL_iff.1 h])
theorem spec_mf_l1 : Ev (fun k => spec_MeasureOfFlow.l1 k p l 0 rL rT rD []) (mend p rL rT rD l (isortN p (selN (leafS p l) l l.length) (selN (leafS p l) l l.length).length)) := by
  have key : ∀ (d i : Nat), i + d = l.length → Ev (fun k => spec_MeasureOfFlow.l1 k p l i rL rT rD (selN (leafS p l) l i)) (mend p rL rT rD l (isortN p (selN (leafS p l) l l.length) (selN (leafS p l) l l.length).length)) := by
    intro d
    induction d with
    | zero =>
      intro i hi
      obtain rfl : i = l.length := by omega
      refine Ev.up ?_
      simp only [spec_MeasureOfFlow.l1, if_neg (show ¬ (l.length : Int) < (l.length : Int) by omega)]
      have hsl := selN_len (leafS p l) l l.length
      refine Ev.bind (spec_l08Sorted_ev (by omega) (fun x hx => by
        obtain ⟨i, hi, _, rfl⟩ := selN_mem l.length x hx
        exact hb _ (gF_mem hi))) ?_
      have hil := isortN_len p (selN (leafS p l) l l.length) (selN (leafS p l) l l.length).length
      generalize isortN p (selN (leafS p l) l l.length) (selN (leafS p l) l l.length).length = q at hil
      refine Ev.bind (spec_l08Is_ev (by omega)) ?_
      unfold mend
      cases hm : measB p rL rT rD q with
      | false => simp only [Bool.false_eq_true, if_false]; exact Ev.now _
      | true =>
        obtain ⟨hr, hlen, _⟩ := measB_parts hm
        obtain ⟨_, hL, _⟩ := ball_parts hr
        simp only [if_true]
        refine Ev.bind (spec_l08Flow_ev hm) ?_
        refine spec_mf_l3 hl _ (by rw [List.length_map]; have := flowU_len p rL q hlen.2 (6 - rL).toNat; omega) q _ _ (Ev.up ?_)
        simp only [spec_MeasureOfFlow.j4]
        cases eqL ((flowU p rL q (6 - rL).toNat).map cF) l with
        | false => simp only [Bool.false_eq_true, if_false]; exact Ev.now _
        | true =>
          simp only [if_true]
          cases (flowU p rL q (6 - rL).toNat).all wB with
          | false => simp only [Bool.false_eq_true, if_false, if_neg (show ¬ (3 : Int) = 0 by decide)]; exact Ev.now _
          | true => simp only [if_true]; exact Ev.now _
    | succ d ih =>
      intro i hi
      have hil : i < l.length := by omega
      have hnx := ih (i + 1) (by omega)
      refine Ev.up ?_
      simp only [spec_MeasureOfFlow.l1, if_pos (show (i : Int) < (l.length : Int) by omega)]
      have hsl := selN_len (leafS p l) l i
      have two : ∀ (d j : Nat), j + d = l.length → Ev (fun k => spec_MeasureOfFlow.l2 k p l i ((List.range j).all fun k => decide (i = k) || !hF p (l.getD i z63) (l.getD k z63)) j rL rT rD (selN (leafS p l) l i)) (mend p rL rT rD l (isortN p (selN (leafS p l) l l.length) (selN (leafS p l) l l.length).length)) := by
        intro d
        induction d with
        | zero =>
          intro j hj
          obtain rfl : j = l.length := by omega
          refine Ev.up ?_
          simp only [spec_MeasureOfFlow.l2, if_neg (show ¬ (l.length : Int) < (l.length : Int) by omega)]
          rw [wid (n := (i : Int) + 1) (by omega) (by omega)]
          have e : ((List.range l.length).all fun k => decide (i = k) || !hF p (l.getD i z63) (l.getD k z63)) = leafS p l i := rfl
          rw [e]
          cases hs : leafS p l i with
          | true =>
            rw [selN, hs, if_pos rfl] at hnx
            simp only [if_true, if_pos (show (0 : Int) ≤ (i : Int) by omega), if_pos (show (i : Int) < (l.length : Int) by omega), if_pos (show (selN (leafS p l) l i).length < 4398046511104 by omega)]
            exact hnx
          | false =>
            rw [selN, hs] at hnx
            simp only [Bool.false_eq_true, if_false]
            exact hnx
        | succ d ih2 =>
          intro j hj
          have hjl : j < l.length := by omega
          have h2 := ih2 (j + 1) (by omega)
          rw [List.range_succ, List.all_append, List.all_cons, List.all_nil, Bool.and_true] at h2
          refine Ev.up ?_
          simp only [spec_MeasureOfFlow.l2, rdF]
          simp only [if_pos (show (j : Int) < (l.length : Int) by omega), if_pos (show (0 : Int) ≤ (i : Int) by omega), if_pos (show (i : Int) < (l.length : Int) by omega), if_pos (show (0 : Int) ≤ (j : Int) by omega)]
          rw [wid (n := (j : Int) + 1) (by omega) (by omega)]
          cases hr : (List.range j).all fun k => decide (i = k) || !hF p (l.getD i z63) (l.getD k z63) with
          | false =>
            rw [hr, Bool.false_and] at h2
            simp only [Bool.false_eq_true, if_false]
            exact h2
          | true =>
            rw [hr, Bool.true_and] at h2
            simp only [if_true]
            by_cases hij : i = j
            · rw [decide_eq_true hij, Bool.true_or] at h2
              simp only [if_pos (show (i : Int) = (j : Int) by omega)]
              exact h2
            · rw [decide_eq_false hij, Bool.false_or] at h2
              simp only [if_neg (show ¬ (i : Int) = (j : Int) by omega)]
              exact Ev.bind (spec_l01Holds_ev (hb _ (gF_mem hil)) (hb _ (gF_mem hjl))) h2
      exact two l.length 0 (by omega)
  exact key l.length 0 (by omega)
end
theorem mend_len (p rL rT rD : Int) (l : List S63) (q : List S72) : (mend p rL rT rD l q).2.2.2.1.length ≤ 64 := by
  unfold mend
  by_cases hm : measB p rL rT rD q = true
  · obtain ⟨_, hlen, _⟩ := measB_parts hm
    rw [if_pos hm]
    split
    · split
      · exact hlen.2
      · exact Nat.zero_le _
    · exact Nat.zero_le _
  · rw [if_neg hm]; exact Nat.zero_le _
theorem mflow_both (p rL rT rD : Int) (l : List S63) (hl : l.length ≤ 1048576) : ∃ r : Int × Int × Int × List S72 × Int, r.2.2.2.1.length ≤ 64 ∧ Ev (fun k => impl_MeasureOfFlow.f k p rL rT rD l) r ∧ Ev (fun k => spec_MeasureOfFlow.f k p rL rT rD l) r := by
  unfold impl_MeasureOfFlow.f spec_MeasureOfFlow.f
  have hi := impl_IsBall_ev p rL rT rD
  have hs := spec_l01Code_ev p [(⟨rL, rT, rD⟩ : S31)] (by simp)
  rw [codeB_one] at hs
  cases hr : ballB p rL rT rD with
  | false =>
    rw [hr] at hi hs
    refine ⟨(0, 0, 0, [], 1), Nat.zero_le _, Ev.bind hi ?_, Ev.bind hs ?_⟩
    · simp only [Bool.false_eq_true, if_false]; exact Ev.now _
    · simp only [Bool.false_eq_true, if_false, if_neg (show ¬ (1 : Int) = 0 by decide)]; exact Ev.now _
  | true =>
    rw [hr] at hi hs
    obtain ⟨_, hL, _⟩ := ball_parts hr
    have loops : ∀ rI rS : Int × Int × Int × List S72 × Int, (∀ x, rI = x → rS = x → True) →
        ((∀ x ∈ l, fB p x = true) → Ev (fun k => if (l.length : Int) = 0 then some (0, 0, 0, ([] : List S72), (2 : Int)) else (if (l.length : Int) > 768 then some (0, 0, 0, ([] : List S72), (5 : Int)) else impl_MeasureOfFlow.l1 k l ([] : List S72) l (l.length : Int) 0 p rL rT rD)) rI) →
        ((∀ x ∈ l, fB p x = true) → Ev (fun k => if (l.length : Int) = 0 then some (0, 0, 0, ([] : List S72), (2 : Int)) else spec_MeasureOfFlow.l1 k p l 0 rL rT rD ([] : List S72)) rS) →
        ((¬ ∀ x ∈ l, fB p x = true) → rI = (0, 0, 0, [], 1) ∧ rS = (0, 0, 0, [], 1)) →
        Ev (fun k => impl_MeasureOfFlow.l0 k l l l.length 0 p rL rT rD) rI ∧ Ev (fun k => spec_MeasureOfFlow.l0 k p l 0 rL rT rD) rS := by
      intro rI rS _ h1 h2 h3
      have key : ∀ (d i : Nat), i + d = l.length → (∀ x ∈ l.take i, fB p x = true) → Ev (fun k => impl_MeasureOfFlow.l0 k l l l.length i p rL rT rD) rI ∧ Ev (fun k => spec_MeasureOfFlow.l0 k p l i rL rT rD) rS := by
        intro d
        induction d with
        | zero =>
          intro i hi ha
          obtain rfl : i = l.length := by omega
          rw [List.take_length] at ha
          constructor
          · refine Ev.up ?_
            simp only [impl_MeasureOfFlow.l0, if_neg (show ¬ (l.length : Int) < (l.length : Int) by omega)]
            exact h1 ha
          · refine Ev.up ?_
            simp only [spec_MeasureOfFlow.l0, if_neg (show ¬ (l.length : Int) < (l.length : Int) by omega)]
            exact h2 ha
        | succ d ih =>
          intro i hi ha
          have hil : i < l.length := by omega
          have ei : l.getD i z63 = l[i] := by rw [List.getD_eq_getElem?_getD, List.getElem?_eq_getElem hil]; rfl
          cases hf : fB p (l.getD i z63) with
          | true =>
            obtain ⟨n1, n2⟩ := ih (i + 1) (by omega) (fun x hx => by
              rw [List.take_succ_eq_append_getElem hil] at hx
              rcases List.mem_append.1 hx with hx | hx
              · exact ha x hx
              · rw [List.mem_singleton.1 hx, ← ei]; exact hf)
            unfold fB at hf
            constructor
            · refine Ev.up ?_
              simp only [impl_MeasureOfFlow.l0, rdF]
              simp only [if_pos (show (i : Int) < (l.length : Int) by omega), if_pos (show (0 : Int) ≤ (i : Int) by omega)]
              have := impl_IsBall_ev p (l.getD i z63).f0.f0 (l.getD i z63).f0.f1 (l.getD i z63).f0.f2
              rw [hf] at this
              refine Ev.bind this ?_
              rw [wid (n := (i : Int) + 1) (by omega) (by omega)]
              simp only [if_true]
              exact n1
            · refine Ev.up ?_
              simp only [spec_MeasureOfFlow.l0, rdF]
              simp only [if_pos (show (i : Int) < (l.length : Int) by omega), if_pos (show (0 : Int) ≤ (i : Int) by omega)]
              have := spec_l01Is_ev p (l.getD i z63).f0.f0 (l.getD i z63).f0.f1 (l.getD i z63).f0.f2
              rw [hf] at this
              refine Ev.bind this ?_
              rw [wid (n := (i : Int) + 1) (by omega) (by omega)]
              simp only [if_true]
              exact n2
          | false =>
            obtain ⟨rfl, rfl⟩ := h3 (fun h => by have := h _ (gF_mem hil); rw [hf] at this; cases this)
            unfold fB at hf
            constructor
            · refine Ev.up ?_
              simp only [impl_MeasureOfFlow.l0, rdF]
              simp only [if_pos (show (i : Int) < (l.length : Int) by omega), if_pos (show (0 : Int) ≤ (i : Int) by omega)]
              have := impl_IsBall_ev p (l.getD i z63).f0.f0 (l.getD i z63).f0.f1 (l.getD i z63).f0.f2
              rw [hf] at this
              refine Ev.bind this ?_
              simp only [Bool.false_eq_true, if_false]
              exact Ev.now _
            · refine Ev.up ?_
              simp only [spec_MeasureOfFlow.l0, rdF]
              simp only [if_pos (show (i : Int) < (l.length : Int) by omega), if_pos (show (0 : Int) ≤ (i : Int) by omega)]
              have := spec_l01Is_ev p (l.getD i z63).f0.f0 (l.getD i z63).f0.f1 (l.getD i z63).f0.f2
              rw [hf] at this
              refine Ev.bind this ?_
              simp only [Bool.false_eq_true, if_false]
              exact Ev.now _
      exact key l.length 0 (by omega) (fun x hx => absurd hx List.not_mem_nil)
    have fin : ∀ r, r.2.2.2.1.length ≤ 64 → (Ev (fun k => impl_MeasureOfFlow.l0 k l l l.length 0 p rL rT rD) r ∧ Ev (fun k => spec_MeasureOfFlow.l0 k p l 0 rL rT rD) r) → ∃ r : Int × Int × Int × List S72 × Int, r.2.2.2.1.length ≤ 64 ∧ Ev (fun k => (impl_IsBall.f k p rL rT rD).bind fun t431 => (if t431 = true then (impl_MeasureOfFlow.l0 k l l (l.length : Int) 0 p rL rT rD) else (some (0, 0, 0, ([] : List S72), 1)))) r ∧ Ev (fun k => (spec_l01Code.f k p (([(⟨rL, rT, rD⟩ : S31)] : List S31))).bind fun t296 => (if t296 = 0 then (spec_MeasureOfFlow.l0 k p l 0 rL rT rD) else (some (0, 0, 0, ([] : List S72), 1)))) r := fun r h0 ⟨h1, h2⟩ => by
      refine ⟨r, h0, Ev.bind hi ?_, Ev.bind hs ?_⟩
      · simp only [if_true]; exact h1
      · simp only [if_true]; exact h2
    by_cases hb : ∀ x ∈ l, fB p x = true
    · by_cases h0 : (l.length : Int) = 0
      · refine fin (0, 0, 0, [], 2) (Nat.zero_le _) (loops _ _ (fun _ _ _ => trivial) (fun _ => ?_) (fun _ => ?_) (fun h => absurd hb h))
        · simp only [if_pos h0]; exact Ev.now _
        · simp only [if_pos h0]; exact Ev.now _
      have hS := spec_mf_l1 (rL := rL) (rT := rT) (rD := rD) hb hl
      have five : (∀ q, measB p rL rT rD q = true → q.length ≤ 64 → eqL ((flowU p rL q (6 - rL).toNat).map cF) l = false) → mend p rL rT rD l (isortN p (selN (leafS p l) l l.length) (selN (leafS p l) l l.length).length) = (0, 0, 0, [], 5) := fun h => by
        unfold mend
        split
        · rename_i hm
          rw [h _ hm (measB_parts hm).2.1.2]; rfl
        · rfl
      by_cases h768 : (l.length : Int) > 768
      · rw [five (fun q hm h64 => by
          rw [Bool.eq_false_iff]
          intro he
          have := congrArg List.length (eqL_iff.1 he)
          rw [List.length_map] at this
          have := flowU_len p rL q h64 (6 - rL).toNat
          omega)] at hS
        refine fin (0, 0, 0, [], 5) (Nat.zero_le _) (loops _ _ (fun _ _ _ => trivial) (fun _ => ?_) (fun _ => ?_) (fun h => absurd hb h))
        · simp only [if_neg h0, if_pos h768]; exact Ev.now _
        · simp only [if_neg h0]; exact hS
      have hl0 : 0 < l.length := by omega
      have hsl := selN_len (leafI p l) l l.length
      obtain ⟨q, q1, q2, q3⟩ := impl_sorted_any (p := p) (rL := rL) (rT := rT) (rD := rD) (leaf_some hb hl0) (by omega) (fun x hx => by
        obtain ⟨i, hi, _, rfl⟩ := selN_mem l.length x hx
        exact hb _ (gF_mem hi))
      have hql : q.length ≤ 1048576 := by rw [q2.length_eq]; omega
      have hI := impl_mf_l1 hb hl hl0 (impl_mf_end (rL := rL) (rT := rT) (rD := rD) hl q1 hql)
      by_cases hnd : ((selN (leafI p l) l l.length).map (pM p)).Nodup
      · rw [leaf_eq hb hnd, isortN_sortW hnd] at hS
        have e : q = sortW p (selN (leafI p l) l l.length) := perm_unique (q2.trans (sortW_perm p _).symm) q3 (sortW_asc p _) (((sortW_perm p _).map (pM p)).nodup_iff.2 hnd)
        rw [e] at hI
        refine fin _ (mend_len p rL rT rD l (sortW p (selN (leafI p l) l l.length))) (loops _ _ (fun _ _ _ => trivial) (fun _ => ?_) (fun _ => ?_) (fun h => absurd hb h))
        · simp only [if_neg h0, if_neg h768]; exact hI
        · simp only [if_neg h0]; exact hS
      · rw [five (fun q hm h64 => by
          rw [Bool.eq_false_iff]
          intro he
          have hn := flowU_nodup hm (6 - rL).toNat (by omega)
          rw [eqL_iff.1 he] at hn
          exact leaf_twice hb hnd hn)] at hS
        have e5 : mend p rL rT rD l q = (0, 0, 0, [], 5) := by
          unfold mend
          rw [if_neg (fun hm => hnd ((q2.map (pM p)).nodup_iff.1 (meas_nodup hm)))]
        rw [e5] at hI
        refine fin (0, 0, 0, [], 5) (Nat.zero_le _) (loops _ _ (fun _ _ _ => trivial) (fun _ => ?_) (fun _ => ?_) (fun h => absurd hb h))
        · simp only [if_neg h0, if_neg h768]; exact hI
        · simp only [if_neg h0]; exact hS
    · exact fin (0, 0, 0, [], 1) (Nat.zero_le _) (loops _ _ (fun _ _ _ => trivial) (fun h => absurd h hb) (fun h => absurd h hb) (fun _ => ⟨rfl, rfl⟩))

theorem laws_toBall_eq (a b c : Int) : laws_toBall.f a b c = some (a, b, c) := by simp [laws_toBall.f]
theorem laws_eqBall_eq (a b c : Int) : laws_eqBall.f a b c a b c = some true := by simp [laws_eqBall.f]
theorem laws_eqPiece_eq (a b c d : Int) : laws_eqPiece.f a b c d a b c d = some true := by simp only [laws_eqPiece.f, laws_eqBall_eq, Option.bind_some, if_true]
theorem laws_eqPieceS_ev (l : List S72) (hl : l.length ≤ 4611686018427387904) : Ev (fun k => laws_eqPieceS.f k l l) true := by
  have key : ∀ (d i : Nat), i + d = l.length → Ev (fun k => laws_eqPieceS.l0 k l l i) true := by
    intro d
    induction d with
    | zero => intro i hi; exact Ev.step (f := fun _ => some true) (fun k => by simp only [laws_eqPieceS.l0]; rw [if_neg (by omega)]) (Ev.now _)
    | succ d ih =>
      intro i hi
      refine Ev.step (f := fun k => laws_eqPieceS.l0 k l l ((i + 1 : Nat) : Int)) (fun k => ?_) (ih (i + 1) (by omega))
      simp only [laws_eqPieceS.l0, laws_eqPiece_eq, Option.bind_some, if_true]
      rw [if_pos (by omega), if_pos (by omega), if_pos (by omega), wid (n := (i : Int) + 1) (by omega) (by omega)]; rfl
  refine Ev.congr (f := fun k => laws_eqPieceS.l0 k l l 0) (fun k => ?_) (key l.length 0 (by omega))
  unfold laws_eqPieceS.f; rw [if_pos rfl]
theorem laws_eqMeasure_ev (a b c : Int) (l : List S72) (hl : l.length ≤ 4611686018427387904) : Ev (fun k => laws_eqMeasure.f k a b c l a b c l) true := by
  unfold laws_eqMeasure.f
  refine Ev.bindv (laws_eqBall_eq a b c) ?_
  simp only [if_true]
  refine Ev.bind (laws_eqPieceS_ev l hl) ?_
  simp only [if_true]
  exact Ev.now _
theorem szP (n : Nat) (hn : n ≤ maxLen) : wrap64 (1048576 - (n : Int)) = 1048576 - (n : Int) := by
  have : maxLen = 9223372036854775807 := rfl
  exact wid (by omega) (by omega)
theorem rdF_set {x : List S63} {i : Nat} (h : i < x.length) (v : S63) : rd_T63 (x.set i v) (i : Int) = v := by
  show (x.set i v).getD i z63 = v
  rw [List.getD_eq_getElem?_getD, List.getElem?_set_self h]; rfl
theorem getDF_set {x : List S63} {i j : Nat} (h : i < x.length) (v : S63) : (x.set i v).getD j z63 = if j = i then v else x.getD j z63 := by
  rw [List.getD_eq_getElem?_getD, List.getElem?_set]
  by_cases e : i = j
  · rw [if_pos e, if_pos e.symm, if_pos h]; rfl
  · rw [if_neg e, if_neg (fun h => e h.symm), List.getD_eq_getElem?_getD]
def mkF (j : Nat) : S63 := ⟨⟨1 + 4 * (j : Int), 1 + 4 * (j : Int) + 1, 1 + 4 * (j : Int) + 1 + 1⟩, 1 + 4 * (j : Int) + 1 + 1 + 1⟩
theorem markFlowS_ev (l : List S63) (hl : l.length ≤ 1048576) : ∃ x, (x.length = l.length ∧ ∀ j, j < l.length → x.getD j z63 = mkF j) ∧ Ev (fun k => laws_markFlowS.f k l 1) (1 + 4 * (l.length : Int), x) := by
  have key : ∀ (d i : Nat) (x : List S63), i + d = l.length → x.length = l.length → (∀ j, j < i → x.getD j z63 = mkF j) → ∃ x', (x'.length = l.length ∧ ∀ j, j < l.length → x'.getD j z63 = mkF j) ∧ Ev (fun k => laws_markFlowS.l0 k x (1 + 4 * (i : Int)) i) (1 + 4 * (l.length : Int), x') := by
    intro d
    induction d with
    | zero =>
      intro i x hi hx hj
      obtain rfl : i = l.length := by omega
      refine ⟨x, ⟨hx, hj⟩, Ev.up ?_⟩
      simp only [laws_markFlowS.l0, if_neg (show ¬ (l.length : Int) < (x.length : Int) by omega)]
      exact Ev.now _
    | succ d ih =>
      intro i x hi hx hj
      have hix : i < x.length := by omega
      obtain ⟨x', q', h'⟩ := ih (i + 1) (x.set i (mkF i)) (by omega) (by rw [List.length_set]; exact hx) (fun j hj2 => by
        rw [getDF_set hix]
        by_cases e : j = i
        · rw [if_pos e, e]
        · rw [if_neg e]; exact hj j (by omega))
      refine ⟨x', q', Ev.up ?_⟩
      simp only [laws_markFlowS.l0, if_pos (show (i : Int) < (x.length : Int) by omega), if_pos (show (0 : Int) ≤ (i : Int) by omega), Option.bind_some, Int.toNat_natCast]
      rw [wid (n := 1 + 4 * (i : Int) + 1) (by omega) (by omega), wid (n := 1 + 4 * (i : Int) + 1 + 1) (by omega) (by omega), wid (n := 1 + 4 * (i : Int) + 1 + 1 + 1) (by omega) (by omega), wid (n := 1 + 4 * (i : Int) + 1 + 1 + 1 + 1) (by omega) (by omega), wid (n := (i : Int) + 1) (by omega) (by omega)]
      simp only [rdF_set hix, List.set_set]
      rw [show 1 + 4 * (i : Int) + 1 + 1 + 1 + 1 = 1 + 4 * ((i + 1 : Nat) : Int) by omega]
      exact h'
  exact key l.length 0 l (by omega) rfl (fun j hj => absurd hj (by omega))
theorem laws_eqFlow_eq (a b c d : Int) : laws_eqFlow.f a b c d a b c d = some true := by simp only [laws_eqFlow.f, laws_eqBall_eq, Option.bind_some, if_true]
theorem laws_eqFlowS_ev (l : List S63) (hl : l.length ≤ 4611686018427387904) : Ev (fun k => laws_eqFlowS.f k l l) true := by
  have key : ∀ (d i : Nat), i + d = l.length → Ev (fun k => laws_eqFlowS.l0 k l l i) true := by
    intro d
    induction d with
    | zero => intro i hi; exact Ev.step (f := fun _ => some true) (fun k => by simp only [laws_eqFlowS.l0]; rw [if_neg (by omega)]) (Ev.now _)
    | succ d ih =>
      intro i hi
      refine Ev.step (f := fun k => laws_eqFlowS.l0 k l l ((i + 1 : Nat) : Int)) (fun k => ?_) (ih (i + 1) (by omega))
      simp only [laws_eqFlowS.l0, laws_eqFlow_eq, Option.bind_some, if_true]
      rw [if_pos (by omega), if_pos (by omega), if_pos (by omega), wid (n := (i : Int) + 1) (by omega) (by omega)]; rfl
  refine Ev.congr (f := fun k => laws_eqFlowS.l0 k l l 0) (fun k => ?_) (key l.length 0 (by omega))
  unfold laws_eqFlowS.f; rw [if_pos rfl]

def convF (x : S94) : S63 := ⟨⟨x.f0.f0, x.f0.f1, x.f0.f2⟩, x.f1⟩
theorem laws_toFlow_eq (a b c d : Int) : laws_toFlow.f a b c d = some (a, b, c, d) := by simp only [laws_toFlow.f, laws_toBall_eq, Option.bind_some]
theorem laws_toFlowS_ev (l : List S94) (hl : l.length ≤ 8796093022208) : Ev (fun k => laws_toFlowS.f k l) (l.map convF) := by
  refine Ev.congr (f := fun k => laws_toFlowS.l0 k l (List.replicate l.length z63) 0) (fun k => ?_) ?_
  · unfold laws_toFlowS.f
    rw [if_pos (by omega), if_pos (by rw [Int.toNat_natCast]; exact hl), Int.toNat_natCast]
  · refine copy_ev' (fun k dst i => laws_toFlowS.l0 k l dst i) (l.map convF) ?_ ?_ _ (by simp)
    · intro dst i h r hd hr
      have hi : i < l.length := by simpa using h
      have hd' : dst.length = l.length := by simpa using hd
      have e : (l.map convF)[i] = convF l[i] := by simp
      rw [e] at hr
      have er : rd_T94 l (i : Int) = l[i] := by
        show l.getD i z94 = l[i]
        rw [List.getD_eq_getElem?_getD, List.getElem?_eq_getElem hi]; rfl
      refine Ev.step (f := fun k => laws_toFlowS.l0 k l (dst.set i (convF l[i])) ((i : Int) + 1)) (fun k => ?_) hr
      simp only [laws_toFlowS.l0, er, laws_toFlow_eq, Option.bind_some]
      simp only [if_pos (show (i : Int) < (l.length : Int) by omega), if_pos (show (0 : Int) ≤ (i : Int) by omega), if_pos (show (i : Int) < (dst.length : Int) by omega), Int.toNat_natCast, wid (n := (i : Int) + 1) (by omega) (by omega)]
      rfl
    · intro dst hd
      refine Ev.step (f := fun _ => some dst) (fun k => ?_) (Ev.now _)
      simp only [laws_toFlowS.l0]
      rw [if_neg (by simp)]
theorem laws_szFlowS_eq (l : List S94) (hl : l.length ≤ maxLen) : laws_szFlowS.f l 1048576 = some (if 1048576 - (l.length : Int) < 0 then -1 else 1048576 - (l.length : Int)) := by
  unfold laws_szFlowS.f
  rw [szP l.length hl]
  split <;> rfl

theorem rdPi_set {x : List S72} {i : Nat} (h : i < x.length) (v : S72) : rd_T72 (x.set i v) (i : Int) = v := by
  show (x.set i v).getD i z72 = v
  rw [List.getD_eq_getElem?_getD, List.getElem?_set_self h]; rfl
def mkP (j : Nat) : S72 := ⟨⟨1 + 4 * (j : Int), 1 + 4 * (j : Int) + 1, 1 + 4 * (j : Int) + 1 + 1⟩, 1 + 4 * (j : Int) + 1 + 1 + 1⟩
theorem getDP_set {x : List S72} {i j : Nat} (h : i < x.length) (v : S72) : (x.set i v).getD j z72 = if j = i then v else x.getD j z72 := by
  rw [List.getD_eq_getElem?_getD, List.getElem?_set]
  by_cases e : i = j
  · rw [if_pos e, if_pos e.symm, if_pos h]; rfl
  · rw [if_neg e, if_neg (fun h => e h.symm), List.getD_eq_getElem?_getD]
theorem markMeasure_held (a b c : Int) (l : List S72) (hl : l.length ≤ 1048576) : ∃ x, Ev (fun k => laws_markMeasure.f k a b c l 1) (1 + 4 * (l.length : Int), x) ∧ ∀ a' b' c', Ev (fun k => laws_heldMeasure.f k a' b' c' x 1) (1 + 4 * (l.length : Int)) := by
  have key : ∀ (d i : Nat) (x : List S72), i + d = l.length → x.length = l.length → (∀ j, j < i → x.getD j z72 = mkP j) → ∃ x', (x'.length = l.length ∧ ∀ j, j < l.length → x'.getD j z72 = mkP j) ∧ Ev (fun k => laws_markPieceS.l0 k x (1 + 4 * (i : Int)) i) (1 + 4 * (l.length : Int), x') := by
    intro d
    induction d with
    | zero =>
      intro i x hi hx hj
      obtain rfl : i = l.length := by omega
      refine ⟨x, ⟨hx, hj⟩, Ev.up ?_⟩
      simp only [laws_markPieceS.l0, if_neg (show ¬ (l.length : Int) < (x.length : Int) by omega)]
      exact Ev.now _
    | succ d ih =>
      intro i x hi hx hj
      have hix : i < x.length := by omega
      obtain ⟨x', q', h'⟩ := ih (i + 1) (x.set i (mkP i)) (by omega) (by rw [List.length_set]; exact hx) (fun j hj2 => by
        rw [getDP_set hix]
        by_cases e : j = i
        · rw [if_pos e, e]
        · rw [if_neg e]; exact hj j (by omega))
      refine ⟨x', q', Ev.up ?_⟩
      simp only [laws_markPieceS.l0, if_pos (show (i : Int) < (x.length : Int) by omega), if_pos (show (0 : Int) ≤ (i : Int) by omega), Option.bind_some, Int.toNat_natCast]
      rw [wid (n := 1 + 4 * (i : Int) + 1) (by omega) (by omega), wid (n := 1 + 4 * (i : Int) + 1 + 1) (by omega) (by omega), wid (n := 1 + 4 * (i : Int) + 1 + 1 + 1) (by omega) (by omega), wid (n := 1 + 4 * (i : Int) + 1 + 1 + 1 + 1) (by omega) (by omega), wid (n := (i : Int) + 1) (by omega) (by omega)]
      simp only [rdPi_set hix, List.set_set]
      rw [show 1 + 4 * (i : Int) + 1 + 1 + 1 + 1 = 1 + 4 * ((i + 1 : Nat) : Int) by omega]
      exact h'
  obtain ⟨x, ⟨x1, x2⟩, hx⟩ := key l.length 0 l (by omega) rfl (fun j hj => absurd hj (by omega))
  have held : ∀ (d i : Nat), i + d = x.length → Ev (fun k => laws_heldPieceS.l0 k x (1 + 4 * (i : Int)) i) (1 + 4 * (x.length : Int)) := by
    intro d
    induction d with
    | zero =>
      intro i hi
      obtain rfl : i = x.length := by omega
      refine Ev.up ?_
      simp only [laws_heldPieceS.l0, if_neg (show ¬ (x.length : Int) < (x.length : Int) by omega)]
      exact Ev.now _
    | succ d ih =>
      intro i hi
      have e : rd_T72 x (i : Int) = mkP i := x2 i (by omega)
      refine Ev.up ?_
      simp only [laws_heldPieceS.l0, if_pos (show (i : Int) < (x.length : Int) by omega), if_pos (show (0 : Int) ≤ (i : Int) by omega), e]
      rw [wid (n := 1 + 4 * (i : Int) + 1) (by omega) (by omega), wid (n := 1 + 4 * (i : Int) + 1 + 1) (by omega) (by omega), wid (n := 1 + 4 * (i : Int) + 1 + 1 + 1) (by omega) (by omega), wid (n := 1 + 4 * (i : Int) + 1 + 1 + 1 + 1) (by omega) (by omega), wid (n := (i : Int) + 1) (by omega) (by omega)]
      unfold mkP
      simp only [if_true]
      rw [show 1 + 4 * (i : Int) + 1 + 1 + 1 + 1 = 1 + 4 * ((i + 1 : Nat) : Int) by omega]
      exact ih (i + 1) (by omega)
  refine ⟨x, ?_, fun a' b' c' => ?_⟩
  · unfold laws_markMeasure.f
    exact Ev.bind hx (Ev.now _)
  · unfold laws_heldMeasure.f
    refine Ev.bind (held x.length 0 (by omega)) ?_
    rw [x1]
    simp only [if_neg (show ¬ 1 + 4 * (l.length : Int) < 0 by omega)]
    exact Ev.now _

theorem FnExactMeasureOfFlow : laws_FnExactMeasureOfFlow.Pure := by
  intro p a b c l _ _ _ _ hmax _
  refine Ev.rounds ?_
  unfold laws_FnExactMeasureOfFlow.f
  refine Ev.bindv (laws_szFlowS_eq l hmax) ?_
  by_cases hbig : 1048576 - (l.length : Int) < 0
  · simp only [if_pos hbig, if_pos (show (-1 : Int) < 0 by decide)]; exact Ev.now _
  simp only [if_neg hbig]
  have hto := laws_toFlowS_ev l (by omega)
  have hlen : (l.map convF).length = l.length := by simp
  obtain ⟨R, hrl, hi, hs⟩ := mflow_both p a b c (l.map convF) (by omega)
  obtain ⟨u, v, w, q, code⟩ := R
  have hq : q.length ≤ 64 := hrl
  have heq := laws_eqMeasure_ev u v w q (by omega)
  obtain ⟨x1, _, hx1⟩ := markFlowS_ev (l.map convF) (by omega)
  obtain ⟨x3, hx3, hheld⟩ := markMeasure_held u v w q (by omega)
  refine Ev.bindv (laws_toBall_eq a b c) (Ev.bind hto (Ev.bind hs (Ev.bind hto (Ev.bindv (laws_toBall_eq a b c) (Ev.bind hi (Ev.bind heq ?_))))))
  simp only [if_true]
  refine Ev.bind hto (Ev.bind (laws_eqFlowS_ev (l.map convF) (by omega)) ?_)
  simp only [if_true]
  refine Ev.bind hx1 ?_
  simp only [if_neg (show ¬ 1 + 4 * ((l.map convF).length : Int) < 0 by omega)]
  refine Ev.bind heq ?_
  simp only [if_true]
  refine Ev.bind hx3 (Ev.bind (hheld u v w) ?_)
  simp only [if_neg (show ¬ 1 + 4 * (q.length : Int) < 0 by omega), if_true]
  refine Ev.bindv (laws_toBall_eq a b c) (Ev.bind hto (Ev.bind hi (Ev.bind heq ?_)))
  simp only [if_true]
  refine Ev.bind (hheld u v w) ?_
  simp only [if_neg (show ¬ 1 + 4 * (q.length : Int) < 0 by omega), if_true]
  exact Ev.now _

end Go.Proofs.Ytdfcoebadjhjlaa.Pure
