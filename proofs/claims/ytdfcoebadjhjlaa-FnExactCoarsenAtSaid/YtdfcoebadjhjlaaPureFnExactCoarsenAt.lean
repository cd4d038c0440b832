/- For every p, measure and ball, CoarsenAt of the program and of the reference return the same measure and code, leave the measure alone and return one of its own; no condition beyond the row's. -/
import Derived.Test.YtdfcoebadjhjlaaQGx74
namespace Go.Proofs.Ytdfcoebadjhjlaa.Pure
open Go.RowKit Go.Proofs.Ytdfcoebadjhjlaa.QG Go.Proofs.YtdfcoebadjhjlaaW.PrintWords Go.Proofs.YtdfcoebadjhjlaaW.PrintLast
set_option linter.unusedVariables false
set_option linter.unusedSimpArgs false
set_option linter.unusedSectionVars false

theorem wid {n : Int} (h0 : -9223372036854775808 ≤ n) (h1 : n ≤ 9223372036854775807) : wrap64 n = n := by unfold wrap64; omega
theorem Ev.val {α : Type} {o : Option α} {r : α} (h : o = some r) : Ev (fun _ => o) r := ⟨0, fun _ _ => h⟩
theorem Ev.bindv {α β : Type} {o : Option α} {f : Nat → α → Option β} {a : α} {r : β} (h : o = some a) (k : Ev (fun n => f n a) r) : Ev (fun n => o.bind (f n)) r := by
  subst h; exact k

def sumTo (f : Nat → Nat) : Nat → Nat
  | 0 => 0
  | n + 1 => sumTo f n + f n
theorem sumTo_add (f g : Nat → Nat) (n : Nat) : sumTo (fun y => f y + g y) n = sumTo f n + sumTo g n := by
  induction n with
  | zero => rfl
  | succ n ih => simp only [sumTo]; rw [ih]; omega
theorem sumTo_le {f g : Nat → Nat} {n : Nat} (h : ∀ y, y < n → f y ≤ g y) : sumTo f n ≤ sumTo g n := by
  induction n with
  | zero => exact Nat.le_refl _
  | succ n ih => simp only [sumTo]; have := ih (fun y hy => h y (by omega)); have := h n (by omega); omega
theorem sumTo_eq {f g : Nat → Nat} {n : Nat} (h : ∀ y, y < n → f y ≤ g y) (e : sumTo f n = sumTo g n) : ∀ y, y < n → f y = g y := by
  induction n with
  | zero => intro y hy; omega
  | succ n ih =>
    simp only [sumTo] at e
    have h1 := sumTo_le (f := f) (g := g) (n := n) (fun y hy => h y (by omega))
    have h2 := h n (by omega)
    intro y hy
    rcases Nat.lt_or_ge y n with hl | hl
    · exact ih (fun y hy => h y (by omega)) (by omega) y hl
    · have : y = n := by omega
      subst this; omega
theorem sumTo_congr {f g : Nat → Nat} {n : Nat} (h : ∀ y, y < n → f y = g y) : sumTo f n = sumTo g n := by
  induction n with
  | zero => rfl
  | succ n ih => simp only [sumTo]; rw [ih (fun y hy => h y (by omega)), h n (by omega)]
theorem sumTo_plus (f : Nat → Nat) (n m : Nat) : sumTo f (n + m) = sumTo f n + sumTo (fun y => f (n + y)) m := by
  induction m with
  | zero => rfl
  | succ m ih => rw [← Nat.add_assoc]; simp only [sumTo]; rw [ih]; omega
theorem sumTo_one {r m : Nat} (h : r < m) : sumTo (fun y => if y = r then 1 else 0) m = 1 := by
  induction m with
  | zero => omega
  | succ m ih =>
    simp only [sumTo]
    by_cases c : r < m
    · rw [ih c, if_neg (by omega)]
    · have : r = m := by omega
      subst this
      have z : sumTo (fun y => if y = r then 1 else 0) r = 0 := by
        rw [sumTo_congr (g := fun _ => 0) (fun y hy => if_neg (by omega))]
        clear ih h c
        induction r with
        | zero => rfl
        | succ r ih => simp only [sumTo]; exact ih
      rw [z, if_pos rfl]
theorem sumTo_class {m r : Nat} (h : r < m) (q : Nat) : sumTo (fun y => if y % m = r then 1 else 0) (q * m) = q := by
  induction q with
  | zero => rw [Nat.zero_mul]; rfl
  | succ q ih =>
    rw [Nat.add_mul, Nat.one_mul, sumTo_plus, ih]
    have : sumTo (fun y => if (q * m + y) % m = r then 1 else 0) m = 1 := by
      refine Eq.trans (sumTo_congr fun y hy => ?_) (sumTo_one h)
      rw [Nat.mul_comm, Nat.mul_add_mod, Nat.mod_eq_of_lt hy]
    rw [this]
def inCl (l : List (Nat × Nat)) (y : Nat) : Nat := match l with
  | [] => 0
  | c :: cs => (if y % c.1 = c.2 then 1 else 0) + inCl cs y
theorem inCl_pos {l : List (Nat × Nat)} {y : Nat} (h : 0 < inCl l y) : ∃ c ∈ l, y % c.1 = c.2 := by
  induction l with
  | nil => exact absurd h (Nat.lt_irrefl _)
  | cons c cs ih =>
    unfold inCl at h
    by_cases e : y % c.1 = c.2
    · exact ⟨c, List.mem_cons_self, e⟩
    · rw [if_neg e, Nat.zero_add] at h
      obtain ⟨d, hd, h2⟩ := ih h
      exact ⟨d, List.mem_cons_of_mem _ hd, h2⟩
theorem inCl_one {l : List (Nat × Nat)} (ha : l.Pairwise fun c d => ∀ y, ¬ (y % c.1 = c.2 ∧ y % d.1 = d.2)) (y : Nat) : inCl l y ≤ 1 := by
  induction l with
  | nil => exact Nat.zero_le _
  | cons c cs ih =>
    obtain ⟨h1, h2⟩ := List.pairwise_cons.1 ha
    unfold inCl
    by_cases e : y % c.1 = c.2
    · rw [if_pos e]
      have : inCl cs y = 0 := by
        rcases Nat.eq_zero_or_pos (inCl cs y) with h | h
        · exact h
        · obtain ⟨d, hd, h3⟩ := inCl_pos h
          exact absurd ⟨e, h3⟩ (h1 d hd y)
      omega
    · rw [if_neg e]; have := ih h2; omega
theorem sumTo_inCl {N : Nat} (l : List (Nat × Nat)) (h : ∀ c ∈ l, c.2 < c.1 ∧ ∃ q, N = q * c.1) : sumTo (inCl l) N = (l.map fun c => N / c.1).sum := by
  induction l with
  | nil =>
    show sumTo (fun _ => 0) N = 0
    induction N with
    | zero => rfl
    | succ N ih => simp only [sumTo]; exact ih (fun c hc => absurd hc List.not_mem_nil)
  | cons c cs ih =>
    show sumTo (fun y => (if y % c.1 = c.2 then 1 else 0) + inCl cs y) N = _
    rw [sumTo_add, ih (fun d hd => h d (List.mem_cons_of_mem _ hd)), List.map_cons, List.sum_cons]
    congr 1
    obtain ⟨h1, q, h2⟩ := h c List.mem_cons_self
    rw [h2, sumTo_class h1 q, Nat.mul_div_cancel q (by omega)]
theorem cover {N M R : Nat} {l : List (Nat × Nat)} (hR : R < M ∧ ∃ q, N = q * M) (h : ∀ c ∈ l, c.2 < c.1 ∧ ∃ q, N = q * c.1) (hin : ∀ c ∈ l, ∀ y, y % c.1 = c.2 → y % M = R) (ha : l.Pairwise fun c d => ∀ y, ¬ (y % c.1 = c.2 ∧ y % d.1 = d.2)) (hs : (l.map fun c => N / c.1).sum = N / M) {y : Nat} (hy : y < N) (hyR : y % M = R) : ∃ c ∈ l, y % c.1 = c.2 := by
  have h1 := sumTo_inCl l h
  obtain ⟨hR1, q, hR2⟩ := hR
  have h2 : sumTo (fun y => if y % M = R then 1 else 0) N = N / M := by
    rw [hR2, sumTo_class hR1 q, Nat.mul_div_cancel q (by omega)]
  have hle : ∀ z, z < N → inCl l z ≤ if z % M = R then 1 else 0 := fun z _ => by
    by_cases e : z % M = R
    · rw [if_pos e]; exact inCl_one ha z
    · rw [if_neg e]
      rcases Nat.eq_zero_or_pos (inCl l z) with h0 | h0
      · omega
      · obtain ⟨c, hc, h3⟩ := inCl_pos h0
        exact absurd (hin c hc z h3) e
  have := sumTo_eq hle (by rw [h1, h2, hs]) y hy
  rw [if_pos hyR] at this
  exact inCl_pos (by omega)

theorem Ev.up {α : Type} {g : Nat → Option α} {r : α} (h : Ev (fun k => g (k + 1)) r) : Ev g r := Ev.step (f := fun k => g (k + 1)) (fun _ => rfl) h

def powW (p : Int) : Nat → Int → Int
  | 0, acc => acc
  | n + 1, acc => powW p n (wrap64 (acc * p))

def primeB (p : Int) : Bool := p == 2 || (p == 3 || (p == 5 || p == 7))
theorem prime_cases {p : Int} (h : primeB p = true) : p = 2 ∨ p = 3 ∨ p = 5 ∨ p = 7 := by
  simpa [primeB] using h
theorem prime_lo {p : Int} (h : primeB p = true) : 2 ≤ p := by rcases prime_cases h with h | h | h | h <;> omega
theorem ipow_pos {p : Int} (hp : 1 ≤ p) (n : Nat) : (1 : Int) ≤ p ^ n := by
  have := Int.pow_pos (n := p) (m := n) (by omega)
  omega
theorem ipow_mono {p : Int} (hp : 1 ≤ p) {m n : Nat} (h : m ≤ n) : p ^ m ≤ p ^ n := by
  obtain ⟨d, rfl⟩ : ∃ d, n = m + d := ⟨n - m, by omega⟩
  rw [Int.pow_add]
  have h1 := ipow_pos hp m
  have h2 := ipow_pos hp d
  have := Int.mul_le_mul_of_nonneg_left h2 (show 0 ≤ p ^ m by omega)
  rwa [Int.mul_one] at this
theorem powW_fit (p : Int) (hp : 1 ≤ p) (n : Nat) : ∀ (acc : Int), 0 ≤ acc → acc * p ^ n ≤ 9223372036854775807 → powW p n acc = acc * p ^ n := by
  induction n with
  | zero => intro acc _ _; simp [powW]
  | succ n ih =>
    intro acc h0 h
    have hpn : (1 : Int) ≤ p ^ n := ipow_pos hp n
    have e : acc * p ^ (n + 1) = acc * p * p ^ n := by rw [Int.pow_succ, Int.mul_comm (p ^ n) p, ← Int.mul_assoc]
    have h1 : 0 ≤ acc * p := Int.mul_nonneg h0 (by omega)
    have h2 : acc * p ≤ acc * p * p ^ n := by
      have := Int.mul_le_mul_of_nonneg_left hpn h1
      rwa [Int.mul_one] at this
    simp only [powW]
    rw [wid (by omega) (by omega), ih _ h1 (by omega), e]
theorem pow_le_top {p : Int} (h : primeB p = true) (n : Nat) (hn : n ≤ 22) : p ^ n ≤ 9223372036854775807 := by
  have hp := prime_lo h
  have h1 : p ^ n ≤ p ^ 22 := ipow_mono (by omega) hn
  have h2 : p ^ 22 ≤ 9223372036854775807 := by
    rcases prime_cases h with rfl | rfl | rfl | rfl <;> decide
  omega
theorem powW_prime {p : Int} (h : primeB p = true) (n : Nat) (hn : n ≤ 22) : powW p n 1 = p ^ n := by
  have hp := prime_lo h
  rw [powW_fit p (by omega) n 1 (by omega) (by rw [Int.one_mul]; exact pow_le_top h n hn), Int.one_mul]

def ballB (p L T D : Int) : Bool :=
  primeB p && (decide (-6 ≤ L ∧ L ≤ 6) && (decide (0 ≤ D ∧ D ≤ 6) && (if L + D ≤ 0 then T == 0 && D == 0 else decide (0 ≤ T ∧ T < p ^ (L + D).toNat) && (D == 0 || !(Int.tmod T p == 0)))))

def valF (p : Int) : Nat → Int → Nat
  | 0, _ => 0
  | f + 1, n => if n % p = 0 then valF p f (n / p) + 1 else 0
def val (p n : Int) : Nat := valF p n.natAbs n
theorem valF_spec {p : Int} (hp : 2 ≤ p) (f : Nat) : ∀ n : Int, n ≠ 0 → n.natAbs ≤ f → ∃ u, n = p ^ (valF p f n) * u ∧ ¬ p ∣ u := by
  induction f with
  | zero => intro n h0 hf; omega
  | succ f ih =>
    intro n h0 hf
    unfold valF
    by_cases h : n % p = 0
    · rw [if_pos h]
      obtain ⟨q, hq⟩ := Int.dvd_of_emod_eq_zero h
      have hq0 : q ≠ 0 := by intro e; subst e; simp at hq; exact h0 hq
      have hdiv : n / p = q := by rw [hq]; exact Int.mul_ediv_cancel_left q (by omega)
      rw [hdiv]
      have hlt : q.natAbs ≤ f := by
        have : n.natAbs = p.natAbs * q.natAbs := by rw [hq, Int.natAbs_mul]
        have h2 : 2 * q.natAbs ≤ p.natAbs * q.natAbs := Nat.mul_le_mul_right _ (by omega)
        omega
      obtain ⟨u, hu, hn⟩ := ih q hq0 hlt
      refine ⟨u, ?_, hn⟩
      conv => lhs; rw [hq, hu]
      rw [Int.pow_succ', Int.mul_assoc]
    · rw [if_neg h]
      exact ⟨n, by simp, fun hd => h (Int.emod_eq_zero_of_dvd hd)⟩
theorem val_spec {p n : Int} (hp : 2 ≤ p) (h : n ≠ 0) : ∃ u, n = p ^ (val p n) * u ∧ ¬ p ∣ u := valF_spec hp _ n h (Nat.le_refl _)
theorem pow_unique {p u u' : Int} (hp : 2 ≤ p) (hu : ¬ p ∣ u) (hu' : ¬ p ∣ u') : ∀ (v v' : Nat), p ^ v * u = p ^ v' * u' → v = v' := by
  have key : ∀ (v d : Nat) (x x' : Int), ¬ p ∣ x → p ^ v * x = p ^ (v + (d + 1)) * x' → False := by
    intro v d x x' hx h
    rw [Int.pow_add, Int.mul_assoc] at h
    have h2 : x = p ^ (d + 1) * x' := Int.eq_of_mul_eq_mul_left (Int.pow_ne_zero (by omega)) h
    apply hx
    rw [h2, Int.pow_succ', Int.mul_assoc]
    exact Int.dvd_mul_right _ _
  intro v v' h
  rcases Nat.lt_trichotomy v v' with h1 | h1 | h1
  · obtain ⟨d, rfl⟩ : ∃ d, v' = v + (d + 1) := ⟨v' - v - 1, by omega⟩
    exact (key v d u u' hu h).elim
  · exact h1
  · obtain ⟨d, rfl⟩ : ∃ d, v = v' + (d + 1) := ⟨v - v' - 1, by omega⟩
    exact (key v' d u' u hu' h.symm).elim
theorem val_eq {p n u : Int} {v : Nat} (hp : 2 ≤ p) (h : n = p ^ v * u) (hu : ¬ p ∣ u) : val p n = v := by
  have hn : n ≠ 0 := by
    intro e; rw [e] at h
    rcases Int.mul_eq_zero.1 h.symm with h | h
    · exact Int.pow_ne_zero (by omega) h
    · exact hu (by rw [h]; exact Int.dvd_zero p)
  obtain ⟨u', h', hu'⟩ := val_spec hp hn
  exact pow_unique hp hu' hu _ _ (h'.symm.trans h)
theorem val_pow_mul {p e : Int} (j : Nat) (hp : 2 ≤ p) (he : e ≠ 0) : val p (p ^ j * e) = j + val p e := by
  obtain ⟨u, h, hu⟩ := val_spec hp he
  refine val_eq hp (u := u) ?_ hu
  conv => lhs; rw [h]
  rw [Int.pow_add, Int.mul_assoc]
theorem val_dvd {p n : Int} (hp : 2 ≤ p) (h : n ≠ 0) (j : Nat) : p ^ j ∣ n ↔ j ≤ val p n := by
  obtain ⟨u, hu, hn⟩ := val_spec hp h
  constructor
  · rintro ⟨q, hq⟩
    rcases Nat.lt_or_ge (val p n) j with h1 | h1
    · exfalso
      obtain ⟨d, hd⟩ : ∃ d, j = val p n + (d + 1) := ⟨j - val p n - 1, by omega⟩
      have h2 : p ^ (val p n) * u = p ^ (val p n) * (p ^ (d + 1) * q) := by
        have e : n = p ^ (val p n) * (p ^ (d + 1) * q) := by rw [← Int.mul_assoc, ← Int.pow_add, ← hd]; exact hq
        exact hu.symm.trans e
      have h3 := Int.eq_of_mul_eq_mul_left (Int.pow_ne_zero (by omega)) h2
      apply hn
      rw [h3, Int.pow_succ', Int.mul_assoc]
      exact Int.dvd_mul_right _ _
    · exact h1
  · intro h1
    obtain ⟨d, hd⟩ : ∃ d, val p n = j + d := ⟨val p n - j, by omega⟩
    refine ⟨p ^ d * u, ?_⟩
    conv => lhs; rw [hu, hd, Int.pow_add, Int.mul_assoc]
theorem val_le_of_lt {p n : Int} (hp : 2 ≤ p) (h : n ≠ 0) (j : Nat) (hlt : n.natAbs < 2 ^ j) : val p n < j := by
  rcases Nat.lt_or_ge (val p n) j with h1 | h1
  · exact h1
  · exfalso
    obtain ⟨q, hq⟩ := (val_dvd hp h j).2 h1
    have hq0 : q ≠ 0 := by intro e; subst e; simp at hq; exact h hq
    have : n.natAbs = p.natAbs ^ j * q.natAbs := by rw [hq, Int.natAbs_mul, Int.natAbs_pow]
    have h2 : 2 ^ j ≤ p.natAbs ^ j := Nat.pow_le_pow_left (by omega) j
    have h3 : p.natAbs ^ j * 1 ≤ p.natAbs ^ j * q.natAbs := Nat.mul_le_mul_left _ (by omega)
    omega
theorem tdiv_bdv {x M : Int} (g : Int) (hx : -M ≤ x ∧ x ≤ M) : -M ≤ Int.tdiv x g ∧ Int.tdiv x g ≤ M := by
  have := Int.natAbs_tdiv_le_natAbs x g
  omega

theorem pow_13 {p : Int} (hp : primeB p = true) (n : Nat) (h : n ≤ 12) : p ^ n ≤ 13841287201 := by
  have hp2 := prime_lo hp
  have h1 : p ^ n ≤ p ^ 12 := ipow_mono (by omega) h
  have h2 : p ^ 12 ≤ 13841287201 := by rcases prime_cases hp with rfl | rfl | rfl | rfl <;> decide
  omega
def markOf (p T D : Int) : Int := T * p ^ (6 - D).toNat
def ofM (p L X : Int) : Int × Int × Int :=
  let x := X % p ^ (L + 6).toNat
  let dn : Int := if x = 0 then 0 else if (val p x : Int) < 6 then 6 - val p x else 0
  (L, x / p ^ (6 - dn).toNat, dn)
theorem ofM_of {p L X T D : Int} (hp : 2 ≤ p) (hx : X % p ^ (L + 6).toNat = T * p ^ (6 - D).toNat) (hD : 0 ≤ D ∧ D ≤ 6) (hu : D = 0 ∨ ¬ p ∣ T) : ofM p L X = (L, T, D) := by
  unfold ofM
  simp only [hx]
  have hpow : ∀ j : Nat, p ^ j ≠ 0 := fun j => Int.pow_ne_zero (by omega)
  by_cases h0 : T * p ^ (6 - D).toNat = 0
  · have hT : T = 0 := by
      rcases Int.mul_eq_zero.1 h0 with h | h
      · exact h
      · exact absurd h (hpow _)
    have hD0 : D = 0 := by
      rcases hu with h | h
      · exact h
      · exact absurd (by rw [hT]; exact Int.dvd_zero p) h
    subst hT; subst hD0
    simp
  · rw [if_neg h0]
    have hT : T ≠ 0 := by intro e; rw [e] at h0; simp at h0
    have hv : val p (T * p ^ (6 - D).toNat) = (6 - D).toNat + val p T := by rw [Int.mul_comm]; exact val_pow_mul _ hp hT
    have hdn : (if ((val p (T * p ^ (6 - D).toNat) : Nat) : Int) < 6 then 6 - ((val p (T * p ^ (6 - D).toNat) : Nat) : Int) else 0) = D := by
      rw [hv]
      rcases hu with h | h
      · rw [if_neg (by omega)]; exact h.symm
      · have : val p T = 0 := val_eq hp (u := T) (by simp) h
        rw [this]
        by_cases hd : D = 0
        · rw [if_neg (by omega)]; exact hd.symm
        · rw [if_pos (by omega)]; omega
    rw [hdn, Int.mul_ediv_cancel _ (hpow _)]
theorem ofM_mod (p L X : Int) : ofM p L (X % p ^ (L + 6).toNat) = ofM p L X := by unfold ofM; simp only [Int.emod_emod]
theorem ofM_back {p L X : Int} (hp : 2 ≤ p) : (ofM p L X).2.1 * p ^ (6 - (ofM p L X).2.2).toNat = X % p ^ (L + 6).toNat ∧ (0 ≤ (ofM p L X).2.2 ∧ (ofM p L X).2.2 ≤ 6) ∧ ((ofM p L X).2.2 = 0 ∨ ¬ p ∣ (ofM p L X).2.1) := by
  unfold ofM
  simp only
  generalize hx : X % p ^ (L + 6).toNat = x
  by_cases h0 : x = 0
  · rw [if_pos h0]; simp [h0]
  · rw [if_neg h0]
    obtain ⟨u, hu, hn⟩ := val_spec hp h0
    have hpow : ∀ j : Nat, p ^ j ≠ 0 := fun j => Int.pow_ne_zero (by omega)
    by_cases hv : ((val p x : Nat) : Int) < 6
    · rw [if_pos hv]
      have e : (6 - (6 - ((val p x : Nat) : Int))).toNat = val p x := by omega
      rw [e]
      have hq : x / p ^ val p x = u := by
        conv => lhs; lhs; rw [hu]
        exact Int.mul_ediv_cancel_left _ (hpow _)
      rw [hq]
      refine ⟨?_, by omega, .inr hn⟩
      rw [Int.mul_comm]; exact hu.symm
    · rw [if_neg hv]
      refine ⟨?_, by omega, .inl rfl⟩
      have hd : p ^ (6 - (0 : Int)).toNat ∣ x := (val_dvd hp h0 _).2 (by omega)
      exact Int.ediv_mul_cancel hd
theorem ofM_inj {p L X Y : Int} (hp : 2 ≤ p) : ofM p L X = ofM p L Y ↔ X % p ^ (L + 6).toNat = Y % p ^ (L + 6).toNat := by
  constructor
  · intro h
    rw [← (ofM_back (X := X) hp).1, ← (ofM_back (X := Y) hp).1, h]
  · intro h
    rw [← ofM_mod p L X, h, ofM_mod]
theorem ball_parts {p L T D : Int} (h : ballB p L T D = true) : primeB p = true ∧ (-6 ≤ L ∧ L ≤ 6) ∧ (0 ≤ D ∧ D ≤ 6) ∧ (L + D ≤ 0 → T = 0 ∧ D = 0) ∧ (0 < L + D → (0 ≤ T ∧ T < p ^ (L + D).toNat) ∧ (D = 0 ∨ ¬ p ∣ T)) := by
  unfold ballB at h
  simp only [Bool.and_eq_true, decide_eq_true_eq] at h
  obtain ⟨h1, h2, h3, h4⟩ := h
  refine ⟨h1, h2, h3, ?_, ?_⟩
  · intro hn; rw [if_pos hn] at h4; simpa using h4
  · intro hn
    rw [if_neg (by omega)] at h4
    simp only [Bool.and_eq_true, decide_eq_true_eq, Bool.or_eq_true, beq_iff_eq, Bool.not_eq_true', beq_eq_false_iff_ne] at h4
    refine ⟨h4.1, ?_⟩
    rcases h4.2 with h5 | h5
    · exact .inl h5
    · exact .inr (fun hd => h5 (Int.tmod_eq_zero_of_dvd hd))
theorem mark_lt {p L T D : Int} (h : ballB p L T D = true) : 0 ≤ markOf p T D ∧ markOf p T D < p ^ (L + 6).toNat := by
  obtain ⟨hp, hL, hD, h0, h1⟩ := ball_parts h
  have hp2 := prime_lo hp
  unfold markOf
  by_cases hn : L + D ≤ 0
  · rw [(h0 hn).1]
    have := ipow_pos (p := p) (by omega) (L + 6).toNat
    omega
  · obtain ⟨⟨a, b⟩, _⟩ := h1 (by omega)
    have hq := ipow_pos (p := p) (by omega) (6 - D).toNat
    refine ⟨Int.mul_nonneg a (by omega), ?_⟩
    have e : p ^ (L + 6).toNat = p ^ (L + D).toNat * p ^ (6 - D).toNat := by rw [← Int.pow_add]; congr 1; omega
    rw [e]
    exact Int.mul_lt_mul_of_pos_right b (by omega)
theorem mark_mod {p L T D : Int} (h : ballB p L T D = true) : markOf p T D % p ^ (L + 6).toNat = markOf p T D := Int.emod_eq_of_lt (mark_lt h).1 (mark_lt h).2
theorem ball_unit {p L T D : Int} (h : ballB p L T D = true) : D = 0 ∨ ¬ p ∣ T := by
  obtain ⟨_, _, _, h0, h1⟩ := ball_parts h
  by_cases hn : L + D ≤ 0
  · exact .inl (h0 hn).2
  · exact (h1 (by omega)).2
theorem ofM_mark {p L T D : Int} (h : ballB p L T D = true) : ofM p L (markOf p T D) = (L, T, D) :=
  ofM_of (prime_lo (ball_parts h).1) (mark_mod h) (ball_parts h).2.2.1 (ball_unit h)
theorem ball_num {p L T D : Int} (h : ballB p L T D = true) : 0 ≤ T ∧ T ≤ 13841287201 := by
  obtain ⟨hp, hL, hD, h0, h1⟩ := ball_parts h
  have hp2 := prime_lo hp
  by_cases hn : L + D ≤ 0
  · rw [(h0 hn).1]; omega
  · have := (h1 (by omega)).1
    have := pow_13 hp (L + D).toNat (by omega)
    omega

def holdsB (p L T D L' T' D' : Int) : Bool := decide (L ≤ L') && ((markOf p T' D' - markOf p T D) % p ^ (L + 6).toNat == 0)
theorem holds_iff {p L T D T' D' : Int} (h : ballB p L T D = true) : ofM p L (markOf p T' D') = (L, T, D) ↔ (markOf p T' D' - markOf p T D) % p ^ (L + 6).toNat = 0 := by
  have hp2 := prime_lo (ball_parts h).1
  rw [← ofM_mark h, ofM_inj hp2]
  exact Int.emod_eq_emod_iff_emod_sub_eq_zero

theorem impl_power_l (p N : Int) (hN : N ≤ 9223372036854775807) (n : Nat) : ∀ (acc i : Int), 0 ≤ i → (i + n = N ∨ (n = 0 ∧ N ≤ i)) → Ev (fun k => impl_power.l0 k p acc N i) (powW p n acc) := by
  induction n with
  | zero =>
    intro acc i hi hx
    exact Ev.step (f := fun _ => some acc) (fun k => by simp only [impl_power.l0]; rw [if_neg (by omega)]) (Ev.now _)
  | succ n ih =>
    intro acc i hi hx
    exact Ev.step (f := fun k => impl_power.l0 k p (wrap64 (acc * p)) N (i + 1)) (fun k => by
      simp only [impl_power.l0]; rw [if_pos (by omega), show wrap64 (i + 1) = i + 1 from wid (by omega) (by omega)]) (ih _ (i + 1) (by omega) (by omega))
theorem impl_power_ev (p x : Int) (h : x ≤ 9223372036854775807) : Ev (fun k => impl_power.f k p x) (powW p x.toNat 1) := by
  refine Ev.congr (f := fun k => impl_power.l0 k p 1 x 0) (fun k => rfl) (impl_power_l p x h x.toNat 1 0 (by omega) (by omega))

theorem impl_mark_ev {p L T D : Int} (h : ballB p L T D = true) : Ev (fun k => impl_mark.f k p L T D) (markOf p T D) := by
  obtain ⟨hp, hL, hD, _, _⟩ := ball_parts h
  have hp2 := prime_lo hp
  obtain ⟨m0, m1⟩ := mark_lt h
  have m2 := pow_13 hp (L + 6).toNat (by omega)
  unfold impl_mark.f
  rw [wid (n := 6 - D) (by omega) (by omega)]
  refine Ev.bind (impl_power_ev p _ (by omega)) ?_
  rw [powW_prime hp _ (by omega), show T * p ^ (6 - D).toNat = markOf p T D from rfl, wid (by omega) (by omega)]
  exact Ev.now _

theorem impl_holds_ev {p L T D L' T' D' : Int} (h : ballB p L T D = true) (h' : ballB p L' T' D' = true) : Ev (fun k => impl_holds.f k p L T D L' T' D') (holdsB p L T D L' T' D') := by
  obtain ⟨hp, hL, _⟩ := ball_parts h
  have hp2 := prime_lo hp
  have hL' := (ball_parts h').2.1
  obtain ⟨a0, a1⟩ := mark_lt h
  obtain ⟨b0, b1⟩ := mark_lt h'
  have m2 := pow_13 hp (L + 6).toNat (by omega)
  have m2' := pow_13 hp (L' + 6).toNat (by omega)
  have m1 := ipow_pos (p := p) (by omega) (L + 6).toNat
  unfold impl_holds.f holdsB
  by_cases hle : L ≤ L'
  · simp only [if_pos hle, decide_eq_true hle, Bool.true_and]
    refine Ev.bind (impl_mark_ev h') (Ev.bind (impl_mark_ev h) ?_)
    rw [wid (n := L + 6) (by omega) (by omega)]
    refine Ev.bind (impl_power_ev p _ (by omega)) ?_
    rw [powW_prime hp _ (by omega), wid (n := markOf p T' D' - markOf p T D) (by omega) (by omega)]
    simp only [if_neg (show ¬ p ^ (L + 6).toNat = 0 by omega)]
    rw [show (Int.tmod (markOf p T' D' - markOf p T D) (p ^ (L + 6).toNat) == 0) = ((markOf p T' D' - markOf p T D) % p ^ (L + 6).toNat == 0) from by
      rw [Bool.eq_iff_iff, beq_iff_eq, beq_iff_eq, ← Int.dvd_iff_tmod_eq_zero, ← Int.dvd_iff_emod_eq_zero]]
    exact Ev.now _
  · simp only [if_neg hle, decide_eq_false hle, Bool.false_and]; exact Ev.now _

theorem spec_l01Power_l (p : Int) (n : Nat) : ∀ (x acc : Int), (n : Int) ≤ 9223372036854775807 → (x = n ∨ (n = 0 ∧ x ≤ 0)) → Ev (fun k => spec_l01Power.l0 k p x acc) (powW p n acc) := by
  induction n with
  | zero =>
    intro x acc _ hx
    exact Ev.step (f := fun _ => some acc) (fun k => by simp only [spec_l01Power.l0]; rw [if_neg (by omega)]) (Ev.now _)
  | succ n ih =>
    intro x acc hn hx
    have hx' : x = n + 1 := by omega
    exact Ev.step (f := fun k => spec_l01Power.l0 k p n (wrap64 (acc * p))) (fun k => by
      simp only [spec_l01Power.l0]; rw [if_pos (by omega), show wrap64 (x - 1) = (n : Int) from by rw [hx', wid (by omega) (by omega)]; omega]) (ih n _ (by omega) (.inl rfl))
theorem spec_l01Power_ev (p x : Int) (h : x ≤ 9223372036854775807) : Ev (fun k => spec_l01Power.f k p x) (powW p x.toNat 1) := by
  refine Ev.congr (f := fun k => spec_l01Power.l0 k p x 1) (fun k => rfl) (spec_l01Power_l p x.toNat x 1 (by omega) (by omega))

theorem spec_l01Val_l (p : Int) (hp : 2 ≤ p) (v : Nat) : ∀ (n u acc : Int), n = p ^ v * u → ¬ p ∣ u → n ≠ 0 → -4611686018427387904 ≤ n → n ≤ 4611686018427387904 → 0 ≤ acc → acc + v ≤ 4611686018427387904 → Ev (fun k => spec_l01Val.l0 k p n acc) (acc + v) := by
  induction v with
  | zero =>
    intro n u acc h hu h0 h1 h2 h3 h4
    refine Ev.step (f := fun _ => some acc) (fun k => ?_) (by simp; exact Ev.now _)
    simp only [spec_l01Val.l0]
    rw [if_neg (by omega), if_neg]
    intro e
    rw [h] at e
    exact hu (by simpa using Int.dvd_of_tmod_eq_zero e)
  | succ v ih =>
    intro n u acc h hu h0 h1 h2 h3 h4
    have hn : n = p * (p ^ v * u) := by rw [h, Int.pow_succ', Int.mul_assoc]
    have hm : Int.tmod n p = 0 := by rw [hn]; exact Int.mul_tmod_right p _
    have hd : Int.tdiv n p = p ^ v * u := by rw [hn]; exact Int.mul_tdiv_cancel_left _ (by omega)
    have hb := tdiv_bdv p (show -4611686018427387904 ≤ n ∧ n ≤ 4611686018427387904 from ⟨h1, h2⟩)
    have hne : p ^ v * u ≠ 0 := by intro e; rw [e] at hn; simp at hn; exact h0 hn
    refine Ev.step (f := fun k => spec_l01Val.l0 k p (p ^ v * u) (acc + 1)) (fun k => ?_) ?_
    · simp only [spec_l01Val.l0]
      rw [if_neg (by omega), if_pos hm, hd]
      rw [hd] at hb
      rw [wid (n := p ^ v * u) (by omega) (by omega), wid (n := acc + 1) (by omega) (by omega)]
    · rw [hd] at hb
      have := ih (p ^ v * u) u (acc + 1) rfl hu hne hb.1 hb.2 (by omega) (by omega)
      rw [show acc + ((v + 1 : Nat) : Int) = acc + 1 + (v : Int) from by omega]
      exact this
theorem spec_l01Val_ev {p n : Int} (hp : 2 ≤ p) (h0 : n ≠ 0) (h1 : -4611686018427387904 ≤ n) (h2 : n ≤ 4611686018427387904) : Ev (fun k => spec_l01Val.f k p n) (val p n : Int) := by
  obtain ⟨u, h, hu⟩ := val_spec hp h0
  have hv := val_le_of_lt hp h0 63 (by omega)
  have := spec_l01Val_l p hp (val p n) n u 0 h hu h0 h1 h2 (by omega) (by omega)
  rw [Int.zero_add] at this
  unfold spec_l01Val.f
  exact this

theorem tmod_cast {a m : Int} (h : 0 ≤ a) : Int.tmod a m = a % m := Int.tmod_eq_emod_of_nonneg h
theorem tdiv_cast {a m : Int} (h : 0 ≤ a) : Int.tdiv a m = a / m := Int.tdiv_eq_ediv_of_nonneg h
theorem tmod_lt' {a m : Int} (hm : 0 < m) : -m < Int.tmod a m ∧ Int.tmod a m < m := by
  have h1 := Int.natAbs_tmod a m
  have h2 := Nat.mod_lt a.natAbs (show 0 < m.natAbs by omega)
  omega
theorem emod_mul_emod' (a b m : Int) : a % m * b % m = a * b % m := by rw [Int.mul_emod (a % m) b m, Int.emod_emod, ← Int.mul_emod]
theorem modW {a m : Int} (hm : 1 ≤ m) (hm2 : m ≤ 2305843009213693952) : Int.tmod (wrap64 (Int.tmod a m + m)) m = a % m := by
  obtain ⟨h1, h2⟩ := tmod_lt' (a := a) (show 0 < m by omega)
  rw [wid (by omega) (by omega), tmod_cast (by omega), Int.add_emod_right]
  have e := Int.tmod_add_mul_tdiv a m
  conv => rhs; rw [← e, Int.add_mul_emod_self_left]

theorem spec_l01MulMod_eq {a b m : Int} (hm : 1 ≤ m) (hm2 : m ≤ 100000000000) : spec_l01MulMod.f a b m = some (a * b % m) := by
  unfold spec_l01MulMod.f
  rw [if_neg (by omega), modW hm (by omega), modW hm (by omega)]
  have a0 := Int.emod_nonneg a (show m ≠ 0 by omega)
  have a1 := Int.emod_lt_of_pos a (show 0 < m by omega)
  have b0 := Int.emod_nonneg b (show m ≠ 0 by omega)
  have b1 := Int.emod_lt_of_pos b (show 0 < m by omega)
  have hab : a * b % m = (a % m) * (b % m) % m := Int.mul_emod a b m
  rw [hab]
  generalize a % m = x at *
  generalize b % m = y at *
  rw [tdiv_cast b0, tmod_cast b0]
  have q0 : 0 ≤ y / 1000000 := by omega
  have q1 : y / 1000000 ≤ 100000 := by omega
  have r0 : 0 ≤ y % 1000000 := by omega
  have r1 : y % 1000000 ≤ 1000000 := by omega
  have p0 : 0 ≤ x * (y / 1000000) := Int.mul_nonneg a0 q0
  have p1 : x * (y / 1000000) ≤ 100000000000 * 100000 := Int.mul_le_mul (by omega) q1 q0 (by omega)
  have s0 : 0 ≤ x * (y % 1000000) := Int.mul_nonneg a0 r0
  have s1 : x * (y % 1000000) ≤ 100000000000 * 1000000 := Int.mul_le_mul (by omega) r1 r0 (by omega)
  rw [wid (n := y / 1000000) (by omega) (by omega), wid (n := x * (y / 1000000)) (by omega) (by omega), wid (n := x * (y % 1000000)) (by omega) (by omega), tmod_cast p0, tmod_cast s0]
  have t0 := Int.emod_nonneg (x * (y / 1000000)) (show m ≠ 0 by omega)
  have t1 := Int.emod_lt_of_pos (x * (y / 1000000)) (show 0 < m by omega)
  rw [wid (n := x * (y / 1000000) % m * 1000000) (by omega) (by omega), tmod_cast (a := x * (y / 1000000) % m * 1000000) (by omega)]
  have u0 := Int.emod_nonneg (x * (y / 1000000) % m * 1000000) (show m ≠ 0 by omega)
  have u1 := Int.emod_lt_of_pos (x * (y / 1000000) % m * 1000000) (show 0 < m by omega)
  have v0 := Int.emod_nonneg (x * (y % 1000000)) (show m ≠ 0 by omega)
  have v1 := Int.emod_lt_of_pos (x * (y % 1000000)) (show 0 < m by omega)
  rw [wid (n := x * (y / 1000000) % m * 1000000 % m + x * (y % 1000000) % m) (by omega) (by omega), tmod_cast (a := x * (y / 1000000) % m * 1000000 % m + x * (y % 1000000) % m) (by omega)]
  congr 1
  have e1 : x * (y / 1000000) % m * 1000000 % m = x * (y / 1000000) * 1000000 % m := by rw [emod_mul_emod']
  rw [e1, ← Int.add_emod]
  congr 1
  rw [Int.mul_assoc, ← Int.mul_add]
  congr 1
  omega

theorem spec_l01InvMod_one {m : Int} (hm : 2 ≤ m) (hm2 : m ≤ 100000000000) : Ev (fun k => spec_l01InvMod.f k 1 m) 1 := by
  have h1 : Int.tmod (wrap64 (Int.tmod 1 m + m)) m = 1 := by rw [modW (by omega) (by omega)]; exact Int.emod_eq_of_lt (by omega) (by omega)
  refine Ev.congr (f := fun k => spec_l01InvMod.l0 k m 1 m 1 0) (fun k => by unfold spec_l01InvMod.f; rw [if_neg (by omega), h1]) ?_
  have q0 : Int.tdiv 1 m = 0 := by rw [tdiv_cast (by omega)]; exact Int.ediv_eq_zero_of_lt (by omega) (by omega)
  have q1 : Int.tdiv m 1 = m := Int.tdiv_one m
  have z0 : wrap64 0 = 0 := wid (by omega) (by omega)
  have z1 : wrap64 1 = 1 := wid (by omega) (by omega)
  refine Ev.step (f := fun k => spec_l01InvMod.l0 k m m 1 0 1) (fun k => ?_) ?_
  · simp only [spec_l01InvMod.l0]
    rw [if_neg (by omega), q0, z0, Int.zero_mul, z0, Int.sub_zero, z1, Int.mul_zero, z0, Int.sub_zero, z1]
  refine Ev.step (f := fun k => spec_l01InvMod.l0 k m 1 0 1 (-m)) (fun k => ?_) ?_
  · simp only [spec_l01InvMod.l0]
    rw [if_neg (by omega), q1, wid (n := m) (by omega) (by omega), Int.mul_one, wid (n := m) (by omega) (by omega), Int.sub_self, z0, Int.zero_sub, wid (n := -m) (by omega) (by omega)]
  refine Ev.step (f := fun _ => some 1) (fun k => ?_) (Ev.now _)
  simp only [spec_l01InvMod.l0]
  rw [if_pos trivial, if_neg (by omega), h1]

theorem In_eq (a b c : Int) : spec_l01In.f a b c = some (decide (b ≤ a ∧ a ≤ c)) := by
  unfold spec_l01In.f
  by_cases h : a ≥ b
  · rw [if_pos h]; congr 1; exact decide_eq_decide.2 ⟨fun h2 => ⟨h, h2⟩, fun h2 => h2.2⟩
  · rw [if_neg h]; congr 1; exact (decide_eq_false (fun h2 => h h2.1)).symm

theorem mx_eq (a b : Int) : mx a b = if a < b then b else a := rfl
theorem spec_l01Of_pow {p num L : Int} (D : Nat) (hp : primeB p = true) (hD : D ≤ 6) (h1 : -1152921504606846976 ≤ num) (h2 : num ≤ 1152921504606846976) (hL : -6 ≤ L ∧ L ≤ 6) :
    Ev (fun k => spec_l01Of.f k p num (p ^ D) L) ((ofM p L (num * p ^ (6 - D))).1, (ofM p L (num * p ^ (6 - D))).2.1, (ofM p L (num * p ^ (6 - D))).2.2, true) := by
  have hp2 := prime_lo hp
  have hpow : ∀ j : Nat, p ^ j ≠ 0 := fun j => Int.pow_ne_zero (by omega)
  have hpD := pow_13 hp D (by omega)
  have hpD1 := ipow_pos (p := p) (by omega) D
  unfold spec_l01Of.f
  refine Ev.bindv (In_eq _ _ _) ?_
  rw [decide_eq_true hL]
  simp only [if_true]
  by_cases h0 : num = 0
  · simp only [if_pos h0]
    have e : ofM p L (num * p ^ (6 - D)) = (L, 0, 0) := by
      rw [h0, Int.zero_mul]; exact ofM_of hp2 (by simp) (by omega) (.inl rfl)
    rw [e]; exact Ev.now _
  simp only [if_neg h0]
  have hvD : val p (p ^ D) = D := val_eq hp2 (u := 1) (by simp) (fun h => by have := Int.le_of_dvd (by omega) h; omega)
  have hv60 := val_le_of_lt hp2 h0 61 (by omega)
  refine Ev.bind (spec_l01Val_ev hp2 h0 (by omega) (by omega)) (Ev.bind (spec_l01Val_ev hp2 (hpow D) (by omega) (by omega)) ?_)
  rw [hvD]
  obtain ⟨u, hu, hn⟩ := val_spec hp2 h0
  generalize hv : val p num = v at *
  rw [wid (n := (v : Int) - (D : Int)) (by omega) (by omega), wid (n := (D : Int) - (v : Int)) (by omega) (by omega)]
  have hX : num * p ^ (6 - D) = p ^ (v + (6 - D)) * u := by
    rw [hu, Int.pow_add, Int.mul_assoc, Int.mul_assoc, Int.mul_comm u]
  by_cases hle : L ≤ (v : Int) - (D : Int)
  · simp only [if_pos hle]
    have e : ofM p L (num * p ^ (6 - D)) = (L, 0, 0) := by
      refine ofM_of hp2 ?_ (by omega) (.inl rfl)
      rw [hX, Int.zero_mul, show v + (6 - D) = (L + 6).toNat + (v + (6 - D) - (L + 6).toNat) from by omega, Int.pow_add, Int.mul_assoc]
      exact Int.mul_emod_right _ _
    rw [e]; exact Ev.now _
  simp only [if_neg hle]
  obtain ⟨dn, hdn⟩ : ∃ dn : Nat, (dn : Int) = mx ((D : Int) - (v : Int)) 0 := ⟨D - v, by rw [mx_eq]; split <;> omega⟩
  have hdn2 : (dn : Int) = if (D : Int) - v < 0 then 0 else (D : Int) - v := by rw [hdn, mx_eq]
  rw [← hdn]
  have hdn6 : dn ≤ D := by split at hdn2 <;> omega
  have hmp : 1 ≤ L + dn := by split at hdn2 <;> omega
  have hmp2 : (L + dn).toNat ≤ 12 := by omega
  simp only [if_neg (show ¬ (dn : Int) > 6 by omega)]
  rw [wid (n := L + (dn : Int)) (by omega) (by omega)]
  refine Ev.bind (spec_l01Power_ev p (L + dn) (by omega)) ?_
  rw [powW_prime hp _ (by omega)]
  have hu0 : u ≠ 0 := by intro e; rw [e] at hn; exact hn (Int.dvd_zero p)
  have hpv1 := ipow_pos (p := p) (by omega) v
  have hpv : p ^ v ≤ 1152921504606846976 := by
    have : num.natAbs = (p ^ v).natAbs * u.natAbs := by rw [← Int.natAbs_mul, ← hu]
    have h3 : (p ^ v).natAbs * 1 ≤ (p ^ v).natAbs * u.natAbs := Nat.mul_le_mul_left _ (by omega)
    omega
  have hub : -1152921504606846976 ≤ u ∧ u ≤ 1152921504606846976 := by
    have : num.natAbs = (p ^ v).natAbs * u.natAbs := by rw [← Int.natAbs_mul, ← hu]
    have h3 : 1 * u.natAbs ≤ (p ^ v).natAbs * u.natAbs := Nat.mul_le_mul_right _ (by omega)
    omega
  have pv : powW p v 1 = p ^ v := by rw [powW_fit p (by omega) v 1 (by omega) (by omega), Int.one_mul]
  refine Ev.bind (spec_l01Power_ev p v (by omega)) ?_
  rw [Int.toNat_natCast, pv]
  simp only [if_neg (hpow v)]
  refine Ev.bind (spec_l01Power_ev p D (by omega)) ?_
  rw [Int.toNat_natCast, powW_prime hp D (by omega)]
  simp only [if_neg (hpow D)]
  rw [Int.tdiv_self (hpow D), show wrap64 1 = 1 from wid (by omega) (by omega)]
  have hm1 : p ^ (L + (dn : Int)).toNat ≤ 13841287201 := pow_13 hp _ hmp2
  have hm0 : 2 ≤ p ^ (L + (dn : Int)).toNat := by
    have := ipow_mono (p := p) (by omega) (show 1 ≤ (L + (dn : Int)).toNat by omega)
    rw [Int.pow_one] at this; omega
  refine Ev.bind (spec_l01InvMod_one hm0 (by omega)) ?_
  have hq : Int.tdiv num (p ^ v) = u := by
    conv => lhs; lhs; rw [hu]
    exact Int.mul_tdiv_cancel_left _ (hpow v)
  rw [hq, wid (n := u) (by omega) (by omega)]
  refine Ev.bindv (spec_l01MulMod_eq (by omega) (by omega)) ?_
  rw [Int.mul_one]
  obtain ⟨e, he⟩ : ∃ e : Nat, (e : Int) = mx ((v : Int) - (D : Int)) 0 := ⟨v - D, by rw [mx_eq]; split <;> omega⟩
  have he2 : (e : Int) = if (v : Int) - D < 0 then 0 else (v : Int) - D := by rw [he, mx_eq]
  rw [← he]
  have hev : e ≤ v := by split at he2 <;> omega
  have hpe : p ^ e ≤ p ^ v := ipow_mono (by omega) hev
  refine Ev.bind (spec_l01Power_ev p e (by omega)) ?_
  rw [Int.toNat_natCast, powW_fit p (by omega) e 1 (by omega) (by omega), Int.one_mul]
  refine Ev.bindv (spec_l01MulMod_eq (by omega) (by omega)) ?_
  have hT : u % p ^ (L + (dn : Int)).toNat * p ^ e % p ^ (L + (dn : Int)).toNat = u * p ^ e % p ^ (L + (dn : Int)).toNat := by rw [emod_mul_emod']
  rw [hT]
  have hexp : v + (6 - D) = (6 - (dn : Int)).toNat + e := by split at hdn2 <;> split at he2 <;> omega
  have hexp2 : (L + 6).toNat = (6 - (dn : Int)).toNat + (L + (dn : Int)).toNat := by omega
  have key : ofM p L (num * p ^ (6 - D)) = (L, u * p ^ e % p ^ (L + (dn : Int)).toNat, (dn : Int)) := by
    refine ofM_of hp2 ?_ (by omega) ?_
    · rw [hX, hexp, hexp2, Int.pow_add, Int.pow_add, Int.mul_assoc, Int.mul_emod_mul_of_pos _ _ (Int.lt_of_lt_of_le (by omega) (ipow_pos (p := p) (by omega) _)), Int.mul_comm (p ^ e) u, Int.mul_comm]
    · by_cases hz : dn = 0
      · left; omega
      · right
        have e0 : e = 0 := by split at hdn2 <;> split at he2 <;> omega
        rw [e0, Int.pow_zero, Int.mul_one]
        intro hd
        apply hn
        have hpm : p ∣ p ^ (L + (dn : Int)).toNat := by
          obtain ⟨j, hj⟩ : ∃ j, (L + (dn : Int)).toNat = j + 1 := ⟨(L + (dn : Int)).toNat - 1, by omega⟩
          rw [hj, Int.pow_succ']; exact Int.dvd_mul_right _ _
        have := Int.dvd_add hd (Int.dvd_trans hpm (Int.dvd_mul_right (p ^ (L + (dn : Int)).toNat) (u / p ^ (L + (dn : Int)).toNat)))
        rwa [Int.emod_add_mul_ediv] at this
  rw [key]
  exact Ev.now _
theorem spec_l01Holds_ev {p L T D L' T' D' : Int} (h : ballB p L T D = true) (h' : ballB p L' T' D' = true) : Ev (fun k => spec_l01Holds.f k p L T D L' T' D') (holdsB p L T D L' T' D') := by
  obtain ⟨hp, hL, hD, _⟩ := ball_parts h
  obtain ⟨_, hL', hD', _⟩ := ball_parts h'
  have hT' := ball_num h'
  unfold spec_l01Holds.f holdsB
  by_cases hle : L ≤ L'
  · simp only [if_neg (show ¬ L > L' by omega), decide_eq_true hle, Bool.true_and]
    refine Ev.bind (spec_l01Power_ev p D' (by omega)) ?_
    rw [powW_prime hp _ (by omega)]
    have := spec_l01Of_pow (num := T') D'.toNat hp (by omega) (by omega) (by omega) hL
    rw [show 6 - D'.toNat = (6 - D').toNat from by omega] at this
    refine Ev.bind this ?_
    simp only [if_true]
    rw [show ((ofM p L (T' * p ^ (6 - D').toNat)).1 == L && ((ofM p L (T' * p ^ (6 - D').toNat)).2.1 == T && (ofM p L (T' * p ^ (6 - D').toNat)).2.2 == D)) = ((markOf p T' D' - markOf p T D) % p ^ (L + 6).toNat == 0) from by
      rw [Bool.eq_iff_iff]
      simp only [Bool.and_eq_true, beq_iff_eq]
      rw [← holds_iff h]
      show _ ↔ ofM p L (T' * p ^ (6 - D').toNat) = (L, T, D)
      constructor
      · rintro ⟨e1, e2, e3⟩; exact Prod.ext e1 (Prod.ext e2 e3)
      · intro e; rw [e]; exact ⟨rfl, rfl, rfl⟩]
    exact Ev.now _
  · simp only [if_pos (show L > L' by omega), decide_eq_false hle, Bool.false_and]; exact Ev.now _

theorem spec_l01Prime_eq (p : Int) : spec_l01Prime.f p = some (primeB p) := by
  unfold spec_l01Prime.f primeB
  by_cases h2 : p = 2
  · simp [h2]
  · by_cases h3 : p = 3
    · simp [h3]
    · by_cases h5 : p = 5
      · simp [h5]
      · rw [if_neg h2, if_neg h3, if_neg h5, beq_eq_false_iff_ne.2 h2, beq_eq_false_iff_ne.2 h3, beq_eq_false_iff_ne.2 h5]; rfl

theorem spec_l01Is_ev (p L T D : Int) : Ev (fun k => spec_l01Is.f k p L T D) (ballB p L T D) := by
  have hno : Ev (fun k => spec_l01Is.j0 k p true L T D) false := Ev.step (f := fun _ => some false) (fun k => by simp only [spec_l01Is.j0, if_true]) (Ev.now _)
  unfold spec_l01Is.f
  refine Ev.bindv (spec_l01Prime_eq p) ?_
  unfold ballB
  cases hp : primeB p with
  | false => simpa using hno
  | true =>
    have hp2 := prime_lo hp
    simp only [if_true, Bool.true_and]
    refine Ev.bindv (In_eq L (-6) 6) ?_
    by_cases hL : -6 ≤ L ∧ L ≤ 6
    · rw [decide_eq_true hL]; simp only [if_true, Bool.true_and]
      refine Ev.bindv (In_eq D 0 6) ?_
      by_cases hD : 0 ≤ D ∧ D ≤ 6
      · rw [decide_eq_true hD]; simp only [Bool.not_true, Bool.true_and]
        have hn := wid (n := L + D) (by omega) (by omega)
        by_cases h0 : L + D ≤ 0
        · rw [if_pos h0]
          refine Ev.step (f := fun _ => some (T == 0 && D == 0)) (fun k => ?_) (Ev.now _)
          simp only [spec_l01Is.j0]
          rw [if_neg (by decide), hn, if_pos h0]
          by_cases hT : T = 0
          · simp [hT]
          · simp [hT]
        · rw [if_neg h0]
          refine Ev.step (f := fun k => (spec_l01Power.f k p (L + D)).bind fun t => (spec_l01In.f T 0 (wrap64 (t - 1))).bind fun t2 => if t2 = true then (if D = 0 then some true else if p = 0 then none else some (Int.tmod T p != 0)) else some false) (fun k => by simp only [spec_l01Is.j0]; rw [if_neg (by decide), hn, if_neg h0]) ?_
          refine Ev.bind (spec_l01Power_ev p (L + D) (by omega)) ?_
          rw [powW_prime hp _ (by omega)]
          have hpp := ipow_pos (p := p) (by omega) (L + D).toNat
          have hpt := pow_le_top hp (L + D).toNat (by omega)
          rw [wid (n := p ^ (L + D).toNat - 1) (by omega) (by omega)]
          refine Ev.bindv (In_eq _ _ _) ?_
          rw [show decide (0 ≤ T ∧ T ≤ p ^ (L + D).toNat - 1) = decide (0 ≤ T ∧ T < p ^ (L + D).toNat) from decide_eq_decide.2 (by omega)]
          cases decide (0 ≤ T ∧ T < p ^ (L + D).toNat) with
          | false => simp only [Bool.false_eq_true, if_false, Bool.false_and]; exact Ev.now _
          | true =>
            simp only [if_true, Bool.true_and]
            by_cases hd : D = 0
            · simp only [hd, if_true]; simp; exact Ev.now _
            · rw [if_neg hd, if_neg (by omega), show (D == 0) = false from beq_eq_false_iff_ne.2 hd, Bool.false_or]
              exact Ev.now _
      · rw [decide_eq_false hD]; simpa using hno
    · rw [decide_eq_false hL]; simpa using hno

theorem rd_nat (l : List Int) (j : Nat) (h : j < l.length) : rd l (j : Int) = l[j] := by
  unfold rd; rw [Int.toNat_natCast, List.getD_eq_getElem?_getD, List.getElem?_eq_getElem h]; rfl
theorem all_ev {β : Type} (g : Nat → Int → Option β) (n : Nat) (p : Nat → Bool) (yes no : β)
    (hstep : ∀ (i : Nat), i < n → p i = true → Ev (fun k => g k ((i : Int) + 1)) yes → Ev (fun k => g k i) yes)
    (hstepno : ∀ (i : Nat), i < n → p i = true → Ev (fun k => g k ((i : Int) + 1)) no → Ev (fun k => g k i) no)
    (hno : ∀ (i : Nat), i < n → p i = false → Ev (fun k => g k i) no)
    (hend : Ev (fun k => g k n) yes) : Ev (fun k => g k 0) (if (List.range n).all p then yes else no) := by
  have key : ∀ (d i : Nat), i + d = n → Ev (fun k => g k i) (if (List.range' i d).all p then yes else no) := by
    intro d
    induction d with
    | zero => intro i hi; have : i = n := by omega
              subst this; simpa using hend
    | succ d ih =>
      intro i hi
      have h := ih (i + 1) (by omega)
      rw [List.range'_succ, List.all_cons]
      cases e : p i with
      | false => simpa using hno i (by omega) e
      | true =>
        rw [Bool.true_and]
        have e1 : (((i + 1 : Nat) : Int)) = (i : Int) + 1 := by omega
        rw [e1] at h
        cases e2 : (List.range' (i + 1) d).all p with
        | true => rw [e2] at h; exact hstep i (by omega) e h
        | false => rw [e2] at h; exact hstepno i (by omega) e h
  have := key n 0 (by omega)
  rw [← List.range_eq_range'] at this
  exact this
theorem all_range_rd (l : List Int) (q : Int → Bool) : (List.range l.length).all (fun i => q (rd l (i : Int))) = l.all q := by
  rw [Bool.eq_iff_iff]
  simp only [List.all_eq_true, List.mem_range]
  constructor
  · intro h x hx
    obtain ⟨i, hi, rfl⟩ := List.mem_iff_getElem.1 hx
    have := h i hi
    rwa [rd_nat l i hi] at this
  · intro h i hi
    rw [rd_nat l i hi]
    exact h _ (List.getElem_mem hi)
theorem all_range_getD {α : Type} (l : List α) (d : α) (q : α → Bool) : (List.range l.length).all (fun i => q (l.getD i d)) = l.all q := by
  rw [Bool.eq_iff_iff]
  simp only [List.all_eq_true, List.mem_range]
  constructor
  · intro h x hx
    obtain ⟨i, hi, rfl⟩ := List.mem_iff_getElem.1 hx
    have := h i hi
    rwa [List.getD_eq_getElem?_getD, List.getElem?_eq_getElem hi] at this
  · intro h i hi
    rw [List.getD_eq_getElem?_getD, List.getElem?_eq_getElem hi]
    exact h _ (List.getElem_mem hi)
theorem all_ev' {β : Type} (g : Nat → Int → Option β) (n : Nat) (p : Nat → Bool) (yes no : β)
    (hstep : ∀ (i : Nat) (r : β), i < n → p i = true → Ev (fun k => g k ((i : Int) + 1)) r → Ev (fun k => g k i) r)
    (hno : ∀ (i : Nat), i < n → p i = false → Ev (fun k => g k i) no)
    (hend : Ev (fun k => g k n) yes) : Ev (fun k => g k 0) (if (List.range n).all p then yes else no) :=
  all_ev g n p yes no (fun i hi hp h => hstep i yes hi hp h) (fun i hi hp h => hstep i no hi hp h) hno hend
theorem ite_tf (b : Bool) : (if b then true else false) = b := by cases b <;> rfl
theorem copy_ev' {α : Type} (g : Nat → List α → Int → Option (List α)) (src : List α)
    (hstep : ∀ (dst : List α) (i : Nat) (h : i < src.length) (r : List α), dst.length = src.length → Ev (fun k => g k (dst.set i src[i]) ((i : Int) + 1)) r → Ev (fun k => g k dst i) r)
    (hend : ∀ (dst : List α), dst.length = src.length → Ev (fun k => g k dst src.length) dst) (dst : List α) (hd : dst.length = src.length) : Ev (fun k => g k dst 0) src := by
  have key : ∀ (n i : Nat) (dst : List α), i + n = src.length → dst.length = src.length → (∀ (j : Nat) (h : j < src.length), j < i → dst[j]? = some src[j]) → Ev (fun k => g k dst i) src := by
    intro n
    induction n with
    | zero =>
      intro i dst hi hl hp
      have e : dst = src := by
        refine List.ext_getElem? fun j => ?_
        by_cases h : j < src.length
        · rw [hp j h (by omega), List.getElem?_eq_getElem h]
        · rw [List.getElem?_eq_none (by omega), List.getElem?_eq_none (by omega)]
      have hi2 : i = src.length := by omega
      subst hi2
      have := hend dst hl
      rwa [e] at this ⊢
    | succ n ih =>
      intro i dst hi hl hp
      refine hstep dst i (by omega) src hl ?_
      have := ih (i + 1) (dst.set i (src[i]'(by omega))) (by omega) (by rw [List.length_set]; exact hl) (fun j h hj => by
        by_cases e : j = i
        · subst e; rw [List.getElem?_set_self (by omega)]
        · rw [List.getElem?_set_ne (by omega)]; exact hp j h (by omega))
      exact this
  exact key src.length 0 dst (by omega) hd (fun j h hj => by omega)

def codeB (p : Int) (l : List S31) : Bool := primeB p && l.all (fun b => ballB p b.f0 b.f1 b.f2)
theorem spec_l01Code_ev (p : Int) (l : List S31) (hl : l.length ≤ 4611686018427387904) : Ev (fun k => spec_l01Code.f k p l) (if codeB p l then 0 else 1) := by
  unfold spec_l01Code.f codeB
  refine Ev.bindv (spec_l01Prime_eq p) ?_
  cases hp : primeB p with
  | false => simp; exact Ev.now _
  | true =>
    simp only [if_true, Bool.true_and]
    rw [← all_range_getD l z31]
    refine all_ev' (fun k i => spec_l01Code.l0 k p l i) l.length (fun i => ballB p (l.getD i z31).f0 (l.getD i z31).f1 (l.getD i z31).f2) 0 1 ?_ ?_ ?_
    · intro i r hi hb hr
      refine Ev.step (f := fun k => (spec_l01Is.f k p (l.getD i z31).f0 (l.getD i z31).f1 (l.getD i z31).f2).bind fun t => if t = true then spec_l01Code.l0 k p l ((i : Int) + 1) else some 1) (fun k => ?_) ?_
      · simp only [spec_l01Code.l0]
        rw [if_pos (by omega), if_pos (by omega), wid (by omega) (by omega)]; rfl
      · refine Ev.bind (spec_l01Is_ev _ _ _ _) ?_
        rw [hb]; simpa using hr
    · intro i hi hb
      refine Ev.step (f := fun k => (spec_l01Is.f k p (l.getD i z31).f0 (l.getD i z31).f1 (l.getD i z31).f2).bind fun t => if t = true then spec_l01Code.l0 k p l ((i : Int) + 1) else some 1) (fun k => ?_) ?_
      · simp only [spec_l01Code.l0]
        rw [if_pos (by omega), if_pos (by omega), wid (by omega) (by omega)]; rfl
      · refine Ev.bind (spec_l01Is_ev _ _ _ _) ?_
        rw [hb]; simp; exact Ev.now _
    · exact Ev.step (f := fun _ => some 0) (fun k => by simp only [spec_l01Code.l0]; rw [if_neg (by omega)]) (Ev.now _)

theorem impl_within_ev (m : Int) (l : List Int) (hm : 0 ≤ m) (hm2 : m ≤ 4611686018427387904) (hl : l.length ≤ 4611686018427387904) : Ev (fun k => impl_within.f k m l) (l.all (fun x => decide (-m ≤ x ∧ x ≤ m))) := by
  unfold impl_within.f
  rw [← ite_tf (l.all _), ← all_range_rd]
  have w : wrap64 (-m) = -m := wid (by omega) (by omega)
  refine all_ev' (fun k i => impl_within.l0 k m l l.length i) l.length (fun i => decide (-m ≤ rd l (i : Int) ∧ rd l (i : Int) ≤ m)) true false ?_ ?_ ?_
  · intro i r hi hp hr
    have hp := of_decide_eq_true hp
    refine Ev.step (f := fun k => impl_within.l0 k m l l.length ((i : Int) + 1)) (fun k => ?_) hr
    simp only [impl_within.l0]
    rw [if_pos (by omega), if_pos (by omega), if_pos (by omega), w, if_neg (by omega), if_neg (by omega), wid (by omega) (by omega)]
  · intro i hi hp
    have hp := of_decide_eq_false hp
    refine Ev.step (f := fun _ => some false) (fun k => ?_) (Ev.now _)
    simp only [impl_within.l0]
    rw [if_pos (by omega), if_pos (by omega), if_pos (by omega), w]
    by_cases h : rd l (i : Int) < -m
    · rw [if_pos h]
    · rw [if_neg h, if_pos (by omega)]
  · exact Ev.step (f := fun _ => some true) (fun k => by simp only [impl_within.l0]; rw [if_neg (by omega)]) (Ev.now _)

theorem impl_isPrime_eq (p : Int) : impl_isPrime.f p = some (primeB p) := by
  unfold impl_isPrime.f primeB
  by_cases h2 : p = 2
  · simp [h2]
  · by_cases h3 : p = 3
    · simp [h3]
    · by_cases h5 : p = 5
      · simp [h5]
      · rw [if_neg h2, if_neg h3, if_neg h5, beq_eq_false_iff_ne.2 h2, beq_eq_false_iff_ne.2 h3, beq_eq_false_iff_ne.2 h5]; rfl

theorem impl_isLevel_eq (L : Int) : impl_isLevel.f L = some (decide (-6 ≤ L ∧ L ≤ 6)) := by
  unfold impl_isLevel.f
  by_cases h : L ≥ -6
  · rw [if_pos h]; congr 1; exact decide_eq_decide.2 ⟨fun h2 => ⟨h, h2⟩, fun h2 => h2.2⟩
  · rw [if_neg h]; congr 1; exact (decide_eq_false (fun h2 => h h2.1)).symm

theorem impl_IsBall_ev (p L T D : Int) : Ev (fun k => impl_IsBall.f k p L T D) (ballB p L T D) := by
  have hno : Ev (fun k => impl_IsBall.j0 k p true L T D) false := Ev.step (f := fun _ => some false) (fun k => by simp only [impl_IsBall.j0, if_true]) (Ev.now _)
  unfold impl_IsBall.f
  refine Ev.bindv (impl_isPrime_eq p) ?_
  unfold ballB
  cases hp : primeB p with
  | false => simpa using hno
  | true =>
    have hp2 := prime_lo hp
    simp only [if_true, Bool.true_and]
    refine Ev.bindv (impl_isLevel_eq L) ?_
    by_cases hL : -6 ≤ L ∧ L ≤ 6
    · rw [decide_eq_true hL]; simp only [if_true, Bool.true_and]
      by_cases hD0 : D < 0
      · rw [decide_eq_false (show ¬ (0 ≤ D ∧ D ≤ 6) by omega)]; simp only [if_pos hD0, Bool.false_and]; exact hno
      simp only [if_neg hD0]
      by_cases hD : 0 ≤ D ∧ D ≤ 6
      · rw [decide_eq_true hD, decide_eq_false (show ¬ D > 6 by omega)]; simp only [Bool.true_and]
        have hn := wid (n := L + D) (by omega) (by omega)
        by_cases h0 : L + D ≤ 0
        · rw [if_pos h0]
          refine Ev.step (f := fun _ => some (T == 0 && D == 0)) (fun k => ?_) (Ev.now _)
          simp only [impl_IsBall.j0]
          rw [if_neg (by decide), hn, if_pos h0]
          by_cases hT : T = 0
          · simp [hT]
          · simp [hT]
        · rw [if_neg h0]
          by_cases hT0 : T ≥ 0
          · refine Ev.step (f := fun k => (impl_power.f k p (L + D)).bind fun t => if T < t then (if D = 0 then some true else if p = 0 then none else some (Int.tmod T p != 0)) else some false) (fun k => by simp only [impl_IsBall.j0]; rw [if_neg (by decide), hn, if_neg h0, if_pos hT0]) ?_
            refine Ev.bind (impl_power_ev p (L + D) (by omega)) ?_
            rw [powW_prime hp _ (by omega)]
            by_cases hT1 : T < p ^ (L + D).toNat
            · rw [if_pos hT1, decide_eq_true (show 0 ≤ T ∧ T < p ^ (L + D).toNat from ⟨hT0, hT1⟩), Bool.true_and]
              by_cases hd : D = 0
              · simp only [hd, if_true]; simp; exact Ev.now _
              · rw [if_neg hd, if_neg (by omega), show (D == 0) = false from beq_eq_false_iff_ne.2 hd, Bool.false_or]
                exact Ev.now _
            · rw [if_neg hT1, decide_eq_false (show ¬ (0 ≤ T ∧ T < p ^ (L + D).toNat) from fun h => hT1 h.2), Bool.false_and]
              exact Ev.now _
          · rw [decide_eq_false (show ¬ (0 ≤ T ∧ T < p ^ (L + D).toNat) from fun h => hT0 h.1), Bool.false_and]
            refine Ev.step (f := fun _ => some false) (fun k => ?_) (Ev.now _)
            simp only [impl_IsBall.j0]
            rw [if_neg (by decide), hn, if_neg h0, if_neg hT0]
      · rw [decide_eq_false hD, decide_eq_true (show D > 6 by omega)]; simpa using hno
    · rw [decide_eq_false hL]; simpa using hno

theorem all_evp {β : Type} (g : Nat → Nat → Option β) (n : Nat) (p : Nat → Bool) (yes no : β)
    (hstep : ∀ (i : Nat) (r : β), i < n → (∀ j, j < i → p j = true) → p i = true → Ev (fun k => g k (i + 1)) r → Ev (fun k => g k i) r)
    (hno : ∀ (i : Nat), i < n → (∀ j, j < i → p j = true) → p i = false → Ev (fun k => g k i) no)
    (hend : (∀ j, j < n → p j = true) → Ev (fun k => g k n) yes) : Ev (fun k => g k 0) (if (List.range n).all p then yes else no) := by
  have key : ∀ (d i : Nat), i + d = n → (∀ j, j < i → p j = true) → Ev (fun k => g k i) (if (List.range n).all p then yes else no) := by
    intro d
    induction d with
    | zero =>
      intro i hi hj
      obtain rfl : i = n := by omega
      rw [if_pos (List.all_eq_true.2 fun x hx => hj x (List.mem_range.1 hx))]
      exact hend hj
    | succ d ih =>
      intro i hi hj
      cases hp : p i with
      | true => exact hstep i _ (by omega) hj hp (ih (i + 1) (by omega) (fun j h => by rcases Nat.lt_or_ge j i with h2 | h2; exact hj j h2; rw [show j = i by omega]; exact hp))
      | false =>
        rw [if_neg (fun h => by have := List.all_eq_true.1 h i (List.mem_range.2 (by omega)); rw [hp] at this; cases this)]
        exact hno i (by omega) hj hp
  exact key n 0 (by omega) (fun j h => absurd h (by omega))
theorem rdP (l : List S72) (i : Nat) : rd_T72 l (i : Int) = l.getD i z72 := rfl
def pB (p : Int) (x : S72) : Bool := ballB p x.f0.f0 x.f0.f1 x.f0.f2
def pM (p : Int) (x : S72) : Int := markOf p x.f0.f1 x.f0.f2
def wB (x : S72) : Bool := decide (-1000000 ≤ x.f1 ∧ x.f1 ≤ 1000000)
def hB (p : Int) (x y : S72) : Bool := holdsB p x.f0.f0 x.f0.f1 x.f0.f2 y.f0.f0 y.f0.f1 y.f0.f2
def gB (p rL rT rD : Int) (l : List S72) (i : Nat) : Bool :=
  pB p (l.getD i z72) && (holdsB p rL rT rD (l.getD i z72).f0.f0 (l.getD i z72).f0.f1 (l.getD i z72).f0.f2 && (decide (i = 0) || decide (pM p (l.getD (i - 1) z72) < pM p (l.getD i z72))))
def apB (p : Int) (l : List S72) (i : Nat) : Bool := (List.range i).all fun j => !hB p (l.getD i z72) (l.getD j z72) && !hB p (l.getD j z72) (l.getD i z72)
def sumP (p e : Int) (l : List S72) : Nat → Int
  | 0 => 0
  | i + 1 => sumP p e l i + p ^ (e - (l.getD i z72).f0.f0).toNat
def measB (p rL rT rD : Int) (l : List S72) : Bool :=
  ballB p rL rT rD && (decide (1 ≤ l.length ∧ l.length ≤ 64) && (((List.range l.length).all (fun i => gB p rL rT rD l i && apB p l i) && sumP p (12 + rL) l l.length == p ^ 12) && l.all wB))
theorem holds_lv {p L T D L' T' D' : Int} (h : holdsB p L T D L' T' D' = true) : L ≤ L' := by
  unfold holdsB at h
  rw [Bool.and_eq_true, decide_eq_true_eq] at h
  exact h.1
section
variable {p rL rT rD : Int} {l : List S72}
theorem gB_lv {i : Nat} (h : gB p rL rT rD l i = true) : rL ≤ (l.getD i z72).f0.f0 ∧ (l.getD i z72).f0.f0 ≤ 6 ∧ pB p (l.getD i z72) = true := by
  unfold gB at h
  simp only [Bool.and_eq_true] at h
  obtain ⟨h1, h2, _⟩ := h
  have := (ball_parts h1).2.1
  exact ⟨holds_lv h2, this.2, h1⟩
theorem sumP_bd {e : Int} (hp : primeB p = true) (n : Nat) (h : ∀ j, j < n → rL ≤ (l.getD j z72).f0.f0) (he : e - rL ≤ 12) : 0 ≤ sumP p e l n ∧ sumP p e l n ≤ (n : Int) * 13841287201 := by
  induction n with
  | zero => simp [sumP]
  | succ n ih =>
    obtain ⟨i1, i2⟩ := ih (fun j hj => h j (by omega))
    have h1 := pow_13 hp (e - (l.getD n z72).f0.f0).toNat (by have := h n (by omega); omega)
    have h2 := ipow_pos (show 1 ≤ p by have := prime_lo hp; omega) (e - (l.getD n z72).f0.f0).toNat
    simp only [sumP]
    omega
theorem impl_apart_ev {x y : S72} (hx : pB p x = true) (hy : pB p y = true) : Ev (fun k => impl_apart.f k p x.f0.f0 x.f0.f1 x.f0.f2 y.f0.f0 y.f0.f1 y.f0.f2) (!hB p x y && !hB p y x) := by
  unfold impl_apart.f
  refine Ev.bind (impl_holds_ev hx hy) ?_
  show Ev _ (!holdsB p x.f0.f0 x.f0.f1 x.f0.f2 y.f0.f0 y.f0.f1 y.f0.f2 && !hB p y x)
  cases holdsB p x.f0.f0 x.f0.f1 x.f0.f2 y.f0.f0 y.f0.f1 y.f0.f2 with
  | true => simp only [if_true, Bool.not_true, Bool.false_and]; exact Ev.now _
  | false =>
    simp only [Bool.false_eq_true, if_false, Bool.not_false, Bool.true_and]
    exact Ev.bind (impl_holds_ev hy hx) (Ev.now _)
theorem impl_isWeight_ev (w : Int) : Ev (fun k => impl_isWeight.f k [w]) (decide (-1000000 ≤ w ∧ w ≤ 1000000)) := by
  unfold impl_isWeight.f
  refine Ev.bind (impl_within_ev 1000000 [w] (by omega) (by omega) (by simp)) ?_
  simp only [List.all_cons, List.all_nil, Bool.and_true]
  exact Ev.now _
theorem spec_l08Key_ev {L T D : Int} (h : ballB p L T D = true) : Ev (fun k => spec_l08Key.f k p L T D) (markOf p T D) := by
  obtain ⟨hp, hL, hD, _, _⟩ := ball_parts h
  obtain ⟨m0, m1⟩ := mark_lt h
  have m2 := pow_13 hp (L + 6).toNat (by omega)
  unfold spec_l08Key.f
  rw [wid (n := 6 - D) (by omega) (by omega)]
  refine Ev.bind (spec_l01Power_ev p _ (by omega)) ?_
  rw [powW_prime hp _ (by omega), show T * p ^ (6 - D).toNat = markOf p T D from rfl, wid (by omega) (by omega)]
  exact Ev.now _
theorem getD_take {i j : Nat} (hj : j < i) : (l.take i).getD j z72 = l.getD j z72 := by
  rw [List.getD_eq_getElem?_getD, List.getD_eq_getElem?_getD, List.getElem?_take_of_lt hj]
theorem impl_part_l1 (hl : l.length ≤ 64) (i : Nat) (hi : i < l.length) (hr : ballB p rL rT rD = true) (hj : ∀ j, j < i → gB p rL rT rD l j = true) (hg : gB p rL rT rD l i = true) (r : Bool)
    (hn : apB p l i = true → Ev (fun k => impl_isPartition.l0 k p l (sumP p (12 + rL) l (i + 1)) l l.length ((i + 1 : Nat) : Int) rL rT rD) r) (hf : apB p l i = false → r = false) :
    Ev (fun k => impl_isPartition.l1 k p l (sumP p (12 + rL) l i) l l.length i (l.take i) i (0 : Nat) rL rT rD (l.getD i z72).f0.f0 (l.getD i z72).f0.f1 (l.getD i z72).f0.f2 (l.getD i z72).f1) r := by
  have hlen : (l.take i).length = i := by rw [List.length_take]; omega
  obtain ⟨g1, g2, g3⟩ := gB_lv hg
  have hp := (ball_parts hr).1
  have hrl := (ball_parts hr).2.1
  have hall : apB p l i = true ∨ apB p l i = false := by cases apB p l i <;> simp
  have := all_evp (fun k j => impl_isPartition.l1 k p l (sumP p (12 + rL) l i) l l.length i (l.take i) i (j : Int) rL rT rD (l.getD i z72).f0.f0 (l.getD i z72).f0.f1 (l.getD i z72).f0.f2 (l.getD i z72).f1) i (fun j => !hB p (l.getD i z72) (l.getD j z72) && !hB p (l.getD j z72) (l.getD i z72)) r false (fun j r' hji hjj hpj hr' => by
      refine Ev.up ?_
      simp only [impl_isPartition.l1, rdP, hlen, getD_take hji]
      simp only [if_pos (show (j : Int) < (i : Int) by omega), if_pos (show (0 : Int) ≤ (j : Int) by omega)]
      refine Ev.bind (impl_apart_ev g3 (gB_lv (hj j hji)).2.2) ?_
      rw [hpj, wid (n := (j : Int) + 1) (by omega) (by omega)]
      simp only [if_true]
      exact hr') (fun j hji hjj hpj => by
      refine Ev.up ?_
      simp only [impl_isPartition.l1, rdP, hlen, getD_take hji]
      simp only [if_pos (show (j : Int) < (i : Int) by omega), if_pos (show (0 : Int) ≤ (j : Int) by omega)]
      refine Ev.bind (impl_apart_ev g3 (gB_lv (hj j hji)).2.2) ?_
      rw [hpj]
      simp only [Bool.false_eq_true, if_false]
      exact Ev.now _) (fun hjj => by
      refine Ev.up ?_
      simp only [impl_isPartition.l1]
      simp only [if_neg (show ¬ (i : Int) < (i : Int) by omega)]
      rw [wid (n := 12 - (l.getD i z72).f0.f0) (by omega) (by omega), wid (n := 12 - (l.getD i z72).f0.f0 + rL) (by omega) (by omega)]
      refine Ev.bind (impl_power_ev p _ (by omega)) ?_
      have hb := sumP_bd (l := l) hp (i + 1) (e := 12 + rL) (fun j hj2 => (gB_lv (show gB p rL rT rD l j = true from by rcases Nat.lt_or_ge j i with h2 | h2; exact hj j h2; rw [show j = i by omega]; exact hg)).1) (by omega)
      have he : 12 - (l.getD i z72).f0.f0 + rL = 12 + rL - (l.getD i z72).f0.f0 := by omega
      rw [powW_prime hp _ (by omega), he, show sumP p (12 + rL) l i + p ^ (12 + rL - (l.getD i z72).f0.f0).toNat = sumP p (12 + rL) l (i + 1) from rfl, wid (n := sumP p (12 + rL) l (i + 1)) (by omega) (by omega), wid (n := (i : Int) + 1) (by omega) (by omega)]
      exact hn (by unfold apB; exact List.all_eq_true.2 fun x hx => hjj x (List.mem_range.1 hx)))
  rcases hall with h | h
  · rw [show (List.range i).all (fun j => !hB p (l.getD i z72) (l.getD j z72) && !hB p (l.getD j z72) (l.getD i z72)) = true from h, if_pos rfl] at this
    exact this
  · rw [show (List.range i).all (fun j => !hB p (l.getD i z72) (l.getD j z72) && !hB p (l.getD j z72) (l.getD i z72)) = false from h] at this
    rw [hf h]
    simpa using this
theorem impl_isPartition_ev (hr : ballB p rL rT rD = true) (hl0 : l.length ≤ 4611686018427387904) : Ev (fun k => impl_isPartition.f k p rL rT rD l) (decide (1 ≤ l.length ∧ l.length ≤ 64) && ((List.range l.length).all (fun i => gB p rL rT rD l i && apB p l i) && sumP p (12 + rL) l l.length == p ^ 12)) := by
  have hp := (ball_parts hr).1
  have hrl := (ball_parts hr).2.1
  have hno : Ev (fun k => impl_isPartition.j0 k p l true rL rT rD) false := by
    refine Ev.up ?_
    simp only [impl_isPartition.j0, if_true]
    exact Ev.now _
  unfold impl_isPartition.f
  by_cases h1 : (l.length : Int) < 1
  · simp only [if_pos h1]
    rw [decide_eq_false (by omega), Bool.false_and]
    exact hno
  simp only [if_neg h1]
  by_cases h2 : (l.length : Int) > 64
  · rw [decide_eq_true h2, decide_eq_false (by omega), Bool.false_and]
    exact hno
  have hl : l.length ≤ 64 := by omega
  rw [decide_eq_false h2, decide_eq_true (show 1 ≤ l.length ∧ l.length ≤ 64 by omega), Bool.true_and]
  refine Ev.up ?_
  simp only [impl_isPartition.j0, Bool.false_eq_true, if_false]
  have := all_evp (fun k i => impl_isPartition.l0 k p l (sumP p (12 + rL) l i) l l.length (i : Int) rL rT rD) l.length (fun i => gB p rL rT rD l i && apB p l i) (sumP p (12 + rL) l l.length == p ^ 12) false ?_ ?_ ?_
  · rw [show ∀ (a b : Bool), (a && b) = if a = true then b else false from fun a b => by cases a <;> simp]
    exact this
  · intro i r hi hj hpi hr'
    simp only [Bool.and_eq_true] at hpi hj
    have hg := hpi.1
    unfold gB at hg
    simp only [Bool.and_eq_true, Bool.or_eq_true, decide_eq_true_eq] at hg
    obtain ⟨q1, q2, q3⟩ := hg
    have fin : Ev (fun k => impl_isPartition.j2 k p l (sumP p (12 + rL) l i) i l l.length i false rL rT rD (l.getD i z72).f0.f0 (l.getD i z72).f0.f1 (l.getD i z72).f0.f2 (l.getD i z72).f1) r := by
      refine Ev.up ?_
      simp only [impl_isPartition.j2, Bool.false_eq_true, if_false, Option.bind_some, Int.toNat_natCast]
      simp only [if_pos (show (0 : Int) ≤ (i : Int) by omega), if_pos (show (i : Int) ≤ (l.length : Int) by omega)]
      have hlen : (l.take i).length = i := by rw [List.length_take]; omega
      rw [hlen]
      exact impl_part_l1 hl i hi hr (fun j hj2 => (hj j hj2).1) hpi.1 r (fun _ => hr') (fun h => by rw [hpi.2] at h; cases h)
    refine Ev.up ?_
    simp only [impl_isPartition.l0, rdP]
    simp only [if_pos (show (i : Int) < (l.length : Int) by omega), if_pos (show (0 : Int) ≤ (i : Int) by omega)]
    refine Ev.bind (impl_IsBall_ev _ _ _ _) ?_
    rw [show ballB p (l.getD i z72).f0.f0 (l.getD i z72).f0.f1 (l.getD i z72).f0.f2 = true from q1]
    simp only [if_true]
    refine Ev.bind (impl_holds_ev hr q1) ?_
    rw [q2]
    simp only [if_true]
    by_cases h0 : i = 0
    · simp only [if_neg (show ¬ (i : Int) > 0 by omega)]
      exact fin
    · have hq := q3.resolve_left h0
      have hprev := (gB_lv (hj (i - 1) (by omega)).1).2.2
      simp only [if_pos (show (i : Int) > 0 by omega)]
      refine Ev.bind (impl_mark_ev q1) ?_
      rw [wid (n := (i : Int) - 1) (by omega) (by omega), show (i : Int) - 1 = ((i - 1 : Nat) : Int) by omega]
      simp only [rdP, if_pos (show (0 : Int) ≤ ((i - 1 : Nat) : Int) by omega), if_pos (show ((i - 1 : Nat) : Int) < (l.length : Int) by omega)]
      refine Ev.bind (impl_mark_ev hprev) ?_
      rw [decide_eq_false (by unfold pM at hq; omega)]
      exact fin
  · intro i hi hj hpi
    simp only [Bool.and_eq_true] at hj
    have stop : Ev (fun k => impl_isPartition.j2 k p l (sumP p (12 + rL) l i) i l l.length i true rL rT rD (l.getD i z72).f0.f0 (l.getD i z72).f0.f1 (l.getD i z72).f0.f2 (l.getD i z72).f1) false := by
      refine Ev.up ?_
      simp only [impl_isPartition.j2, if_true]
      exact Ev.now _
    have fin (hg : gB p rL rT rD l i = true) : Ev (fun k => impl_isPartition.j2 k p l (sumP p (12 + rL) l i) i l l.length i false rL rT rD (l.getD i z72).f0.f0 (l.getD i z72).f0.f1 (l.getD i z72).f0.f2 (l.getD i z72).f1) false := by
      refine Ev.up ?_
      simp only [impl_isPartition.j2, Bool.false_eq_true, if_false, Option.bind_some, Int.toNat_natCast]
      simp only [if_pos (show (0 : Int) ≤ (i : Int) by omega), if_pos (show (i : Int) ≤ (l.length : Int) by omega)]
      have hlen : (l.take i).length = i := by rw [List.length_take]; omega
      rw [hlen]
      exact impl_part_l1 hl i hi hr (fun j hj2 => (hj j hj2).1) hg false (fun h => by rw [hg, h] at hpi; cases hpi) (fun _ => rfl)
    refine Ev.up ?_
    simp only [impl_isPartition.l0, rdP]
    simp only [if_pos (show (i : Int) < (l.length : Int) by omega), if_pos (show (0 : Int) ≤ (i : Int) by omega)]
    refine Ev.bind (impl_IsBall_ev _ _ _ _) ?_
    cases q1 : ballB p (l.getD i z72).f0.f0 (l.getD i z72).f0.f1 (l.getD i z72).f0.f2 with
    | false => simp only [Bool.false_eq_true, if_false]; exact stop
    | true =>
      simp only [if_true]
      refine Ev.bind (impl_holds_ev hr q1) ?_
      cases q2 : holdsB p rL rT rD (l.getD i z72).f0.f0 (l.getD i z72).f0.f1 (l.getD i z72).f0.f2 with
      | false => simp only [Bool.false_eq_true, if_false]; exact stop
      | true =>
        simp only [if_true]
        by_cases h0 : i = 0
        · simp only [if_neg (show ¬ (i : Int) > 0 by omega)]
          exact fin (by unfold gB pB; rw [q1, q2, decide_eq_true h0]; rfl)
        · have hprev := (gB_lv (hj (i - 1) (by omega)).1).2.2
          simp only [if_pos (show (i : Int) > 0 by omega)]
          refine Ev.bind (impl_mark_ev q1) ?_
          rw [wid (n := (i : Int) - 1) (by omega) (by omega), show (i : Int) - 1 = ((i - 1 : Nat) : Int) by omega]
          simp only [rdP, if_pos (show (0 : Int) ≤ ((i - 1 : Nat) : Int) by omega), if_pos (show ((i - 1 : Nat) : Int) < (l.length : Int) by omega)]
          refine Ev.bind (impl_mark_ev hprev) ?_
          by_cases q3 : pM p (l.getD (i - 1) z72) < pM p (l.getD i z72)
          · rw [decide_eq_false (by unfold pM at q3; omega)]
            exact fin (by unfold gB pB; rw [q1, q2, decide_eq_true q3, Bool.or_true]; rfl)
          · rw [decide_eq_true (by unfold pM at q3; omega)]
            exact stop
  · intro hj
    refine Ev.up ?_
    simp only [impl_isPartition.l0]
    simp only [if_neg (show ¬ (l.length : Int) < (l.length : Int) by omega)]
    refine Ev.bind (impl_power_ev p 12 (by omega)) ?_
    rw [show (12 : Int).toNat = 12 from rfl, powW_prime hp 12 (by omega)]
    exact Ev.now _
theorem impl_IsMeasure_ev (hl : l.length ≤ 4611686018427387904) : Ev (fun k => impl_IsMeasure.f k p rL rT rD l) (measB p rL rT rD l) := by
  have hno : Ev (fun k => impl_IsMeasure.j0 k true rL rT rD l) false := by
    refine Ev.up ?_
    simp only [impl_IsMeasure.j0, if_true]
    exact Ev.now _
  unfold impl_IsMeasure.f measB
  refine Ev.bind (impl_IsBall_ev _ _ _ _) ?_
  cases hr : ballB p rL rT rD with
  | false => simp only [Bool.false_eq_true, if_false, Bool.false_and]; exact hno
  | true =>
    simp only [if_true, Bool.true_and]
    refine Ev.bind (impl_isPartition_ev hr hl) ?_
    generalize decide (1 ≤ l.length ∧ l.length ≤ 64) = D
    generalize ((List.range l.length).all (fun i => gB p rL rT rD l i && apB p l i) && sumP p (12 + rL) l l.length == p ^ 12) = A
    rw [← Bool.and_assoc]
    cases hpt : (D && A) with
    | false => simp only [Bool.not_false, Bool.false_and]; exact hno
    | true =>
      simp only [Bool.not_true, Bool.true_and]
      refine Ev.up ?_
      simp only [impl_IsMeasure.j0, Bool.false_eq_true, if_false]
      have := all_evp (fun k i => impl_IsMeasure.l0 k l l.length (i : Int)) l.length (fun i => wB (l.getD i z72)) true false (fun i r hi _ hw hr' => by
        refine Ev.up ?_
        simp only [impl_IsMeasure.l0, rdP]
        simp only [if_pos (show (i : Int) < (l.length : Int) by omega), if_pos (show (0 : Int) ≤ (i : Int) by omega)]
        refine Ev.bind (impl_isWeight_ev _) ?_
        rw [show decide (-1000000 ≤ (l.getD i z72).f1 ∧ (l.getD i z72).f1 ≤ 1000000) = true from hw, wid (n := (i : Int) + 1) (by omega) (by omega)]
        simp only [if_true]
        exact hr') (fun i hi _ hw => by
        refine Ev.up ?_
        simp only [impl_IsMeasure.l0, rdP]
        simp only [if_pos (show (i : Int) < (l.length : Int) by omega), if_pos (show (0 : Int) ≤ (i : Int) by omega)]
        refine Ev.bind (impl_isWeight_ev _) ?_
        rw [show decide (-1000000 ≤ (l.getD i z72).f1 ∧ (l.getD i z72).f1 ≤ 1000000) = false from hw]
        simp only [Bool.false_eq_true, if_false]
        exact Ev.now _) (fun _ => by
        refine Ev.up ?_
        simp only [impl_IsMeasure.l0]
        simp only [if_neg (show ¬ (l.length : Int) < (l.length : Int) by omega)]
        exact Ev.now _)
      rw [ite_tf] at this
      rw [← all_range_getD l z72 wB]
      exact this
end

def leastS (rL : Int) (l : List S72) : Nat → Int
  | 0 => rL
  | i + 1 => mx (leastS rL l i) (l.getD i z72).f0.f0
def offB (p : Int) (l : List S72) (i : Nat) : Bool := (List.range l.length).all fun k => decide (i = k) || !hB p (l.getD i z72) (l.getD k z72)
theorem mx_max (a b : Int) : mx a b = max a b := by unfold mx; split <;> omega
theorem codeB_one (p rL rT rD : Int) : codeB p [(⟨rL, rT, rD⟩ : S31)] = ballB p rL rT rD := by
  unfold codeB
  cases h : ballB p rL rT rD with
  | false => simp [h]
  | true => simp [h, (ball_parts h).1]
section
variable {p rL rT rD : Int} {l : List S72}
theorem leastS_bd (n : Nat) (h : ∀ j, j < n → rL ≤ (l.getD j z72).f0.f0 ∧ (l.getD j z72).f0.f0 ≤ 6) (h6 : rL ≤ 6) : rL ≤ leastS rL l n ∧ leastS rL l n ≤ 6 ∧ ∀ j, j < n → (l.getD j z72).f0.f0 ≤ leastS rL l n := by
  induction n with
  | zero => exact ⟨Int.le_refl _, h6, fun j hj => absurd hj (by omega)⟩
  | succ n ih =>
    obtain ⟨i1, i2, i3⟩ := ih (fun j hj => h j (by omega))
    have hn := h n (by omega)
    simp only [leastS, mx_max]
    refine ⟨by omega, by omega, fun j hj => ?_⟩
    rcases Nat.lt_or_ge j n with h2 | h2
    · have := i3 j h2; omega
    · rw [show j = n by omega]; omega
theorem sumP_mul {e f : Int} (hf : 0 ≤ f) (n : Nat) (h : ∀ j, j < n → (l.getD j z72).f0.f0 ≤ e) : sumP p (e + f) l n = sumP p e l n * p ^ f.toNat := by
  induction n with
  | zero => simp [sumP]
  | succ n ih =>
    simp only [sumP]
    rw [ih (fun j hj => h j (by omega)), show (e + f - (l.getD n z72).f0.f0).toNat = (e - (l.getD n z72).f0.f0).toNat + f.toNat by have := h n (by omega); omega, Int.pow_add, Int.add_mul]
theorem off_ap : (List.range l.length).all (offB p l) = (List.range l.length).all (apB p l) := by
  rw [Bool.eq_iff_iff]
  simp only [List.all_eq_true, List.mem_range, offB, apB, Bool.or_eq_true, Bool.and_eq_true, decide_eq_true_eq]
  constructor
  · intro h i hi j hj
    exact ⟨(h i hi j (by omega)).resolve_left (by omega), (h j (by omega) i hi).resolve_left (by omega)⟩
  · intro h i hi k hk
    rcases Nat.lt_trichotomy i k with h2 | h2 | h2
    · exact Or.inr (h k hk i h2).2
    · exact Or.inl h2
    · exact Or.inr (h i hi k h2).1
theorem meas_same (hr : ballB p rL rT rD = true) : (if (List.range l.length).all (fun i => gB p rL rT rD l i && wB (l.getD i z72)) = true then ((List.range l.length).all (offB p l) && sumP p (leastS rL l l.length) l l.length == p ^ (leastS rL l l.length - rL).toNat) else false)
    = (((List.range l.length).all (fun i => gB p rL rT rD l i && apB p l i) && sumP p (12 + rL) l l.length == p ^ 12) && l.all wB) := by
  have hp := (ball_parts hr).1
  have hrl := (ball_parts hr).2.1
  rw [off_ap, ← all_range_getD l z72 wB]
  by_cases hg : ∀ i, i < l.length → gB p rL rT rD l i = true
  · obtain ⟨m1, m2, m3⟩ := leastS_bd (rL := rL) (l := l) l.length (fun j hj => ⟨(gB_lv (hg j hj)).1, (gB_lv (hg j hj)).2.1⟩) hrl.2
    have e1 := sumP_mul (p := p) (l := l) (e := leastS rL l l.length) (f := 12 + rL - leastS rL l l.length) (by omega) l.length m3
    rw [show leastS rL l l.length + (12 + rL - leastS rL l l.length) = 12 + rL by omega] at e1
    have e2 : p ^ 12 = p ^ (leastS rL l l.length - rL).toNat * p ^ (12 + rL - leastS rL l l.length).toNat := by
      rw [← Int.pow_add]; congr 1; omega
    have hpos := ipow_pos (show 1 ≤ p by have := prime_lo hp; omega) (12 + rL - leastS rL l l.length).toNat
    have e3 : (sumP p (12 + rL) l l.length == p ^ 12) = (sumP p (leastS rL l l.length) l l.length == p ^ (leastS rL l l.length - rL).toNat) := by
      rw [Bool.eq_iff_iff, beq_iff_eq, beq_iff_eq, e1, e2]
      exact ⟨fun h => Int.eq_of_mul_eq_mul_right (by omega) h, fun h => by rw [h]⟩
    rw [e3]
    have a1 : (List.range l.length).all (fun i => gB p rL rT rD l i && wB (l.getD i z72)) = (List.range l.length).all (fun i => wB (l.getD i z72)) := by
      rw [Bool.eq_iff_iff]; simp only [List.all_eq_true, List.mem_range, Bool.and_eq_true]
      exact ⟨fun h i hi => (h i hi).2, fun h i hi => ⟨hg i hi, h i hi⟩⟩
    have a2 : (List.range l.length).all (fun i => gB p rL rT rD l i && apB p l i) = (List.range l.length).all (apB p l) := by
      rw [Bool.eq_iff_iff]; simp only [List.all_eq_true, List.mem_range, Bool.and_eq_true]
      exact ⟨fun h i hi => (h i hi).2, fun h i hi => ⟨hg i hi, h i hi⟩⟩
    rw [a1, a2]
    cases (List.range l.length).all (fun i => wB (l.getD i z72)) <;> simp
  · have a1 : (List.range l.length).all (fun i => gB p rL rT rD l i && wB (l.getD i z72)) = false := by
      rw [Bool.eq_false_iff]; intro h; simp only [List.all_eq_true, List.mem_range, Bool.and_eq_true] at h
      exact hg fun i hi => (h i hi).1
    have a2 : (List.range l.length).all (fun i => gB p rL rT rD l i && apB p l i) = false := by
      rw [Bool.eq_false_iff]; intro h; simp only [List.all_eq_true, List.mem_range, Bool.and_eq_true] at h
      exact hg fun i hi => (h i hi).1
    rw [a1, a2]
    simp
theorem spec_meas_l1 (hr : ballB p rL rT rD = true) (hl : l.length ≤ 64) (hg : ∀ j, j < l.length → gB p rL rT rD l j = true) :
    Ev (fun k => spec_l08Is.l1 k p (leastS rL l l.length) 0 (0 : Nat) rL rT rD l) ((List.range l.length).all (offB p l) && sumP p (leastS rL l l.length) l l.length == p ^ (leastS rL l l.length - rL).toNat) := by
  have hp := (ball_parts hr).1
  have hrl := (ball_parts hr).2.1
  obtain ⟨m1, m2, m3⟩ := leastS_bd (rL := rL) (l := l) l.length (fun j hj => ⟨(gB_lv (hg j hj)).1, (gB_lv (hg j hj)).2.1⟩) hrl.2
  generalize leastS rL l l.length = M at m1 m2 m3 ⊢
  have inner (i : Nat) (hi : i < l.length) (r : Bool) (hn : offB p l i = true → Ev (fun k => spec_l08Is.l1 k p M (sumP p M l (i + 1)) ((i + 1 : Nat) : Int) rL rT rD l) r) (hf : offB p l i = false → r = false) : Ev (fun k => spec_l08Is.l2 k p M (sumP p M l i) i (0 : Nat) rL rT rD l) r := by
    have := all_evp (fun k j => spec_l08Is.l2 k p M (sumP p M l i) i (j : Int) rL rT rD l) l.length (fun k => decide (i = k) || !hB p (l.getD i z72) (l.getD k z72)) r false (fun j r' hj _ hpj hr' => by
      refine Ev.up ?_
      simp only [spec_l08Is.l2, rdP]
      simp only [if_pos (show (j : Int) < (l.length : Int) by omega)]
      rw [wid (n := (j : Int) + 1) (by omega) (by omega)]
      by_cases e : i = j
      · simp only [if_pos (show (i : Int) = (j : Int) by omega)]; exact hr'
      · simp only [if_neg (show ¬ (i : Int) = (j : Int) by omega), if_pos (show (0 : Int) ≤ (i : Int) by omega), if_pos (show (i : Int) < (l.length : Int) by omega), if_pos (show (0 : Int) ≤ (j : Int) by omega)]
        refine Ev.bind (spec_l01Holds_ev (gB_lv (hg i hi)).2.2 (gB_lv (hg j hj)).2.2) ?_
        have hh : holdsB p (l.getD i z72).f0.f0 (l.getD i z72).f0.f1 (l.getD i z72).f0.f2 (l.getD j z72).f0.f0 (l.getD j z72).f0.f1 (l.getD j z72).f0.f2 = false := by
          rw [decide_eq_false e, Bool.false_or, Bool.not_eq_true'] at hpj; exact hpj
        rw [hh]
        simp only [Bool.false_eq_true, if_false]
        exact hr') (fun j hj _ hpj => by
      refine Ev.up ?_
      simp only [spec_l08Is.l2, rdP]
      simp only [if_pos (show (j : Int) < (l.length : Int) by omega)]
      by_cases e : i = j
      · rw [decide_eq_true e, Bool.true_or] at hpj; cases hpj
      · simp only [if_neg (show ¬ (i : Int) = (j : Int) by omega), if_pos (show (0 : Int) ≤ (i : Int) by omega), if_pos (show (i : Int) < (l.length : Int) by omega), if_pos (show (0 : Int) ≤ (j : Int) by omega)]
        refine Ev.bind (spec_l01Holds_ev (gB_lv (hg i hi)).2.2 (gB_lv (hg j hj)).2.2) ?_
        have hh : holdsB p (l.getD i z72).f0.f0 (l.getD i z72).f0.f1 (l.getD i z72).f0.f2 (l.getD j z72).f0.f0 (l.getD j z72).f0.f1 (l.getD j z72).f0.f2 = true := by
          rw [decide_eq_false e, Bool.false_or, Bool.not_eq_false'] at hpj; exact hpj
        rw [hh]
        simp only [if_true]
        exact Ev.now _) (fun hj => by
      refine Ev.up ?_
      simp only [spec_l08Is.l2, rdP]
      simp only [if_neg (show ¬ (l.length : Int) < (l.length : Int) by omega), if_pos (show (0 : Int) ≤ (i : Int) by omega), if_pos (show (i : Int) < (l.length : Int) by omega)]
      have hi6 := gB_lv (hg i hi)
      have hm := m3 i hi
      rw [wid (n := M - (l.getD i z72).f0.f0) (by omega) (by omega)]
      refine Ev.bind (spec_l01Power_ev p _ (by omega)) ?_
      have hb := sumP_bd (l := l) (rL := rL) (e := M) hp (i + 1) (fun j hj2 => (gB_lv (hg j (by omega))).1) (by omega)
      rw [powW_prime hp _ (by omega), show sumP p M l i + p ^ (M - (l.getD i z72).f0.f0).toNat = sumP p M l (i + 1) from rfl, wid (n := sumP p M l (i + 1)) (by omega) (by omega), wid (n := (i : Int) + 1) (by omega) (by omega)]
      exact hn (by unfold offB; exact List.all_eq_true.2 fun x hx => hj x (List.mem_range.1 hx)))
    cases h : offB p l i with
    | true =>
      rw [show (List.range l.length).all (fun k => decide (i = k) || !hB p (l.getD i z72) (l.getD k z72)) = true from h, if_pos rfl] at this
      exact this
    | false =>
      rw [show (List.range l.length).all (fun k => decide (i = k) || !hB p (l.getD i z72) (l.getD k z72)) = false from h] at this
      rw [hf h]
      simpa using this
  have := all_evp (fun k i => spec_l08Is.l1 k p M (sumP p M l i) (i : Int) rL rT rD l) l.length (offB p l) (sumP p M l l.length == p ^ (M - rL).toNat) false (fun i r hi _ hpi hr' => by
    refine Ev.up ?_
    simp only [spec_l08Is.l1]
    simp only [if_pos (show (i : Int) < (l.length : Int) by omega)]
    exact inner i hi r (fun _ => hr') (fun h => by rw [hpi] at h; cases h)) (fun i hi _ hpi => by
    refine Ev.up ?_
    simp only [spec_l08Is.l1]
    simp only [if_pos (show (i : Int) < (l.length : Int) by omega)]
    exact inner i hi false (fun h => by rw [hpi] at h; cases h) (fun _ => rfl)) (fun _ => by
    refine Ev.up ?_
    simp only [spec_l08Is.l1]
    simp only [if_neg (show ¬ (l.length : Int) < (l.length : Int) by omega)]
    rw [wid (n := M - rL) (by omega) (by omega)]
    refine Ev.bind (spec_l01Power_ev p _ (by omega)) ?_
    rw [powW_prime hp _ (by omega)]
    exact Ev.now _)
  rw [show ∀ (a b : Bool), (a && b) = if a = true then b else false from fun a b => by cases a <;> simp]
  exact this
theorem spec_l08Is_ev (hl0 : l.length ≤ 4611686018427387904) : Ev (fun k => spec_l08Is.f k p rL rT rD l) (measB p rL rT rD l) := by
  have hno : Ev (fun k => spec_l08Is.j0 k p true rL rT rD l) false := by
    refine Ev.up ?_
    simp only [spec_l08Is.j0, if_true]
    exact Ev.now _
  unfold spec_l08Is.f measB
  refine Ev.bind (spec_l01Code_ev p _ (by simp)) ?_
  rw [codeB_one]
  cases hr : ballB p rL rT rD with
  | false => simp only [Bool.false_eq_true, if_false, Bool.false_and, if_neg (show ¬ (1 : Int) = 0 by decide)]; exact hno
  | true =>
    have hp := (ball_parts hr).1
    have hrl := (ball_parts hr).2.1
    simp only [if_true, Bool.true_and]
    by_cases h1 : (l.length : Int) < 1
    · simp only [if_pos h1]
      rw [decide_eq_false (by omega), Bool.false_and]
      exact hno
    simp only [if_neg h1]
    by_cases h2 : (l.length : Int) > 64
    · rw [decide_eq_true h2, decide_eq_false (by omega), Bool.false_and]
      exact hno
    have hl : l.length ≤ 64 := by omega
    rw [decide_eq_false h2, decide_eq_true (show 1 ≤ l.length ∧ l.length ≤ 64 by omega), Bool.true_and]
    refine Ev.up ?_
    simp only [spec_l08Is.j0, Bool.false_eq_true, if_false]
    rw [← meas_same hr]
    have stop (s : Int) (i : Nat) (L T D w : Int) : Ev (fun k => spec_l08Is.j2 k p s i true rL rT rD l L T D w) false := by
      refine Ev.up ?_
      simp only [spec_l08Is.j2, if_true]
      exact Ev.now _
    exact all_evp (fun k i => spec_l08Is.l0 k p (leastS rL l i) (i : Int) rL rT rD l) l.length (fun i => gB p rL rT rD l i && wB (l.getD i z72)) _ false (fun i r hi hj hpi hr' => by
      simp only [Bool.and_eq_true] at hpi hj
      have hw : decide (-1000000 ≤ (l.getD i z72).f1 ∧ (l.getD i z72).f1 ≤ 1000000) = true := hpi.2
      have hg := hpi.1
      unfold gB at hg
      simp only [Bool.and_eq_true, Bool.or_eq_true, decide_eq_true_eq] at hg
      obtain ⟨q1, q2, q3⟩ := hg
      refine Ev.up ?_
      simp only [spec_l08Is.l0, rdP]
      simp only [if_pos (show (i : Int) < (l.length : Int) by omega), if_pos (show (0 : Int) ≤ (i : Int) by omega)]
      refine Ev.bind (spec_l01Is_ev _ _ _ _) ?_
      rw [show ballB p (l.getD i z72).f0.f0 (l.getD i z72).f0.f1 (l.getD i z72).f0.f2 = true from q1]
      simp only [if_true]
      refine Ev.bind (spec_l01Holds_ev hr q1) ?_
      rw [q2]
      simp only [if_true]
      refine Ev.bindv (In_eq _ _ _) ?_
      rw [hw]
      refine Ev.up ?_
      simp only [spec_l08Is.j2, Bool.not_true, Bool.false_eq_true, if_false]
      rw [wid (n := (i : Int) + 1) (by omega) (by omega)]
      by_cases h0 : i = 0
      · simp only [if_neg (show ¬ (i : Int) > 0 by omega)]
        exact hr'
      · have hq := q3.resolve_left h0
        have hprev := (gB_lv (hj (i - 1) (by omega)).1).2.2
        simp only [if_pos (show (i : Int) > 0 by omega)]
        rw [wid (n := (i : Int) - 1) (by omega) (by omega), show (i : Int) - 1 = ((i - 1 : Nat) : Int) by omega]
        simp only [rdP, if_pos (show (0 : Int) ≤ ((i - 1 : Nat) : Int) by omega), if_pos (show ((i - 1 : Nat) : Int) < (l.length : Int) by omega)]
        refine Ev.bind (spec_l08Key_ev hprev) (Ev.bind (spec_l08Key_ev q1) ?_)
        simp only [if_neg (show ¬ markOf p (l.getD (i - 1) z72).f0.f1 (l.getD (i - 1) z72).f0.f2 ≥ markOf p (l.getD i z72).f0.f1 (l.getD i z72).f0.f2 by unfold pM at hq; omega)]
        exact hr') (fun i hi hj hpi => by
      simp only [Bool.and_eq_true] at hj
      refine Ev.up ?_
      simp only [spec_l08Is.l0, rdP]
      simp only [if_pos (show (i : Int) < (l.length : Int) by omega), if_pos (show (0 : Int) ≤ (i : Int) by omega)]
      refine Ev.bind (spec_l01Is_ev _ _ _ _) ?_
      cases q1 : ballB p (l.getD i z72).f0.f0 (l.getD i z72).f0.f1 (l.getD i z72).f0.f2 with
      | false => simp only [Bool.false_eq_true, if_false]; exact stop _ _ _ _ _ _
      | true =>
        simp only [if_true]
        refine Ev.bind (spec_l01Holds_ev hr q1) ?_
        cases q2 : holdsB p rL rT rD (l.getD i z72).f0.f0 (l.getD i z72).f0.f1 (l.getD i z72).f0.f2 with
        | false => simp only [Bool.false_eq_true, if_false]; exact stop _ _ _ _ _ _
        | true =>
          simp only [if_true]
          refine Ev.bindv (In_eq _ _ _) ?_
          cases hw : decide (-1000000 ≤ (l.getD i z72).f1 ∧ (l.getD i z72).f1 ≤ 1000000) with
          | false => simp only [Bool.not_false]; exact stop _ _ _ _ _ _
          | true =>
            have hw2 : wB (l.getD i z72) = true := hw
            refine Ev.up ?_
            simp only [spec_l08Is.j2, Bool.not_true, Bool.false_eq_true, if_false]
            by_cases h0 : i = 0
            · have : gB p rL rT rD l i = true := by unfold gB pB; rw [q1, q2, decide_eq_true h0]; rfl
              rw [this, hw2] at hpi; cases hpi
            · have hprev := (gB_lv (hj (i - 1) (by omega)).1).2.2
              simp only [if_pos (show (i : Int) > 0 by omega)]
              rw [wid (n := (i : Int) - 1) (by omega) (by omega), show (i : Int) - 1 = ((i - 1 : Nat) : Int) by omega]
              simp only [rdP, if_pos (show (0 : Int) ≤ ((i - 1 : Nat) : Int) by omega), if_pos (show ((i - 1 : Nat) : Int) < (l.length : Int) by omega)]
              refine Ev.bind (spec_l08Key_ev hprev) (Ev.bind (spec_l08Key_ev q1) ?_)
              by_cases q3 : pM p (l.getD (i - 1) z72) < pM p (l.getD i z72)
              · have : gB p rL rT rD l i = true := by unfold gB pB; rw [q1, q2, decide_eq_true q3, Bool.or_true]; rfl
                rw [this, hw2] at hpi; cases hpi
              · simp only [if_pos (show markOf p (l.getD (i - 1) z72).f0.f1 (l.getD (i - 1) z72).f0.f2 ≥ markOf p (l.getD i z72).f0.f1 (l.getD i z72).f0.f2 by unfold pM at q3; omega)]
                exact Ev.now _) (fun hj => by
      simp only [Bool.and_eq_true] at hj
      refine Ev.up ?_
      simp only [spec_l08Is.l0]
      simp only [if_neg (show ¬ (l.length : Int) < (l.length : Int) by omega)]
      exact spec_meas_l1 hr hl (fun j h => (hj j h).1))
end

theorem gB_root {p rL rT rD : Int} {l : List S72} {i : Nat} (h : gB p rL rT rD l i = true) : holdsB p rL rT rD (l.getD i z72).f0.f0 (l.getD i z72).f0.f1 (l.getD i z72).f0.f2 = true := by
  unfold gB at h
  simp only [Bool.and_eq_true] at h
  exact h.2.1
theorem measB_parts {p rL rT rD : Int} {l : List S72} (h : measB p rL rT rD l = true) : ballB p rL rT rD = true ∧ (1 ≤ l.length ∧ l.length ≤ 64) ∧ ∀ j, j < l.length → gB p rL rT rD l j = true := by
  unfold measB at h
  simp only [Bool.and_eq_true, decide_eq_true_eq, List.all_eq_true, List.mem_range] at h
  exact ⟨h.1, h.2.1, fun j hj => (h.2.2.1.1 j hj).1⟩

def samL (x : S72) (L T D : Int) : Bool := x.f0.f0 == L && (x.f0.f1 == T && x.f0.f2 == D)
def holP (p : Int) (x : S72) (L T D : Int) : Bool := holdsB p x.f0.f0 x.f0.f1 x.f0.f2 L T D
def withL (p L T D : Int) : List S72 → Bool × Bool
  | [] => (false, false)
  | x :: r => if holP p x L T D then (true, samL x L T D) else withL p L T D r
theorem withL_cons (p L T D : Int) (x : S72) (r : List S72) : withL p L T D (x :: r) = if holP p x L T D then (true, samL x L T D) else withL p L T D r := rfl
def sumB (p L T D : Int) (l : List S72) : Nat → Int
  | 0 => 0
  | i + 1 => if holdsB p L T D (l.getD i z72).f0.f0 (l.getD i z72).f0.f1 (l.getD i z72).f0.f2 then wrap64 (sumB p L T D l i + (l.getD i z72).f1) else sumB p L T D l i
def fineB (p L T D : Int) (l : List S72) : Nat → Bool
  | 0 => true
  | i + 1 => if holdsB p L T D (l.getD i z72).f0.f0 (l.getD i z72).f0.f1 (l.getD i z72).f0.f2 then (fineB p L T D l i && decide (-1000000 ≤ sumB p L T D l (i + 1) ∧ sumB p L T D l (i + 1) ≤ 1000000)) else fineB p L T D l i
theorem ipow_dvd (p : Int) {a b : Nat} (h : a ≤ b) : p ^ a ∣ p ^ b := ⟨p ^ (b - a), by rw [← Int.pow_add, Nat.add_sub_cancel' h]⟩
theorem measB_apart {p rL rT rD : Int} {l : List S72} (h : measB p rL rT rD l = true) : ∀ i j, i < j → j < l.length → (hB p (l.getD i z72) (l.getD j z72) = false ∧ hB p (l.getD j z72) (l.getD i z72) = false) := by
  unfold measB at h
  simp only [Bool.and_eq_true, decide_eq_true_eq, List.all_eq_true, List.mem_range] at h
  intro i j hij hj
  have := (h.2.2.1.1 j hj).2
  unfold apB at this
  have := List.all_eq_true.1 this i (List.mem_range.2 hij)
  simp only [Bool.and_eq_true, Bool.not_eq_true'] at this
  exact ⟨this.2, this.1⟩
theorem Ev.all {α β : Type} {g : Nat → α → Option β} {r : α → β} (l : List α) (h : ∀ x ∈ l, Ev (fun k => g k x) (r x)) : ∃ K, ∀ k, K ≤ k → ∀ x ∈ l, g k x = some (r x) := by
  induction l with
  | nil => exact ⟨0, fun _ _ x hx => by cases hx⟩
  | cons a l ih =>
    obtain ⟨K, hK⟩ := ih (fun x hx => h x (List.mem_cons_of_mem _ hx))
    obtain ⟨K2, hK2⟩ := h a List.mem_cons_self
    refine ⟨max K K2, fun k hk x hx => ?_⟩
    rcases List.mem_cons.1 hx with rfl | hx
    · exact hK2 k (by omega)
    · exact hK k (by omega) x hx
section
variable {p rL rT rD L T D : Int} {l : List S72} (hl : l.length ≤ 64) (hb : ballB p L T D = true) (hg : ∀ j, j < l.length → pB p (l.getD j z72) = true)
include hl hb hg in
include hl hb hg in
theorem impl_total_ev : Ev (fun k => impl_total.f k p rL rT rD l L T D) (sumB p L T D l l.length, fineB p L T D l l.length) := by
  unfold impl_total.f
  have key : ∀ (d i : Nat), i + d = l.length → Ev (fun k => impl_total.l0 k p (sumB p L T D l i) (fineB p L T D l i) l l.length i L T D) (sumB p L T D l l.length, fineB p L T D l l.length) := by
    intro d
    induction d with
    | zero =>
      intro i hi
      obtain rfl : i = l.length := by omega
      refine Ev.up ?_
      simp only [impl_total.l0, if_neg (show ¬ (l.length : Int) < (l.length : Int) by omega)]
      exact Ev.now _
    | succ d ih =>
      intro i hi
      have hn := ih (i + 1) (by omega)
      refine Ev.up ?_
      simp only [impl_total.l0, rdP]
      simp only [if_pos (show (i : Int) < (l.length : Int) by omega), if_pos (show (0 : Int) ≤ (i : Int) by omega)]
      refine Ev.bind (impl_holds_ev hb (hg i (by omega))) ?_
      rw [wid (n := (i : Int) + 1) (by omega) (by omega)]
      cases hh : holdsB p L T D (l.getD i z72).f0.f0 (l.getD i z72).f0.f1 (l.getD i z72).f0.f2 with
      | false =>
        rw [show sumB p L T D l (i + 1) = sumB p L T D l i by rw [sumB, hh]; rfl, show fineB p L T D l (i + 1) = fineB p L T D l i by rw [fineB, hh]; rfl] at hn
        simp only [Bool.false_eq_true, if_false]
        exact hn
      | true =>
        have e1 : sumB p L T D l (i + 1) = wrap64 (sumB p L T D l i + (l.getD i z72).f1) := by rw [sumB, hh]; rfl
        have e2 : fineB p L T D l (i + 1) = (fineB p L T D l i && decide (-1000000 ≤ wrap64 (sumB p L T D l i + (l.getD i z72).f1) ∧ wrap64 (sumB p L T D l i + (l.getD i z72).f1) ≤ 1000000)) := by rw [fineB, hh, e1]; rfl
        rw [e1, e2] at hn
        simp only [if_true]
        cases hf : fineB p L T D l i with
        | true =>
          simp only [if_true]
          refine Ev.bind (impl_isWeight_ev _) ?_
          rw [hf, Bool.true_and] at hn
          exact hn
        | false =>
          simp only [Bool.false_eq_true, if_false]
          rw [hf, Bool.false_and] at hn
          exact hn
  exact key l.length 0 (by omega)
include hl hb hg in
theorem spec_within_ev : Ev (fun k => spec_l08Within.f k p rL rT rD l L T D) (withL p L T D l) := by
  unfold spec_l08Within.f
  have key : ∀ (d i : Nat), i + d = l.length → Ev (fun k => spec_l08Within.l0 k p i rL rT rD l L T D) (withL p L T D (l.drop i)) := by
    intro d
    induction d with
    | zero =>
      intro i hi
      obtain rfl : i = l.length := by omega
      refine Ev.up ?_
      rw [List.drop_of_length_le (Nat.le_refl _)]
      simp only [spec_l08Within.l0, if_neg (show ¬ (l.length : Int) < (l.length : Int) by omega)]
      exact Ev.now _
    | succ d ih =>
      intro i hi
      have hn := ih (i + 1) (by omega)
      have hd : l.drop i = l.getD i z72 :: l.drop (i + 1) := by
        rw [List.drop_eq_getElem_cons (by omega), List.getD_eq_getElem?_getD, List.getElem?_eq_getElem (by omega)]; rfl
      rw [hd, withL_cons]
      refine Ev.up ?_
      simp only [spec_l08Within.l0, rdP]
      simp only [if_pos (show (i : Int) < (l.length : Int) by omega), if_pos (show (0 : Int) ≤ (i : Int) by omega)]
      refine Ev.bind (spec_l01Holds_ev (hg i (by omega)) hb) ?_
      rw [wid (n := (i : Int) + 1) (by omega) (by omega), show holdsB p (l.getD i z72).f0.f0 (l.getD i z72).f0.f1 (l.getD i z72).f0.f2 L T D = holP p (l.getD i z72) L T D from rfl]
      cases holP p (l.getD i z72) L T D with
      | true => simp only [if_true]; exact Ev.now _
      | false => simp only [Bool.false_eq_true, if_false]; exact hn
  exact key l.length 0 (by omega)
include hb hg in
theorem impl_inPiece_ev (hl0 : 0 < l.length) : Ev (fun k => impl_inPiece.f k p rL rT rD l L T D) (l.any fun x => !samL x L T D && holP p x L T D) := by
  obtain ⟨K, hK⟩ := Ev.all (g := fun k (x : S72) => impl_holds.f k p x.f0.f0 x.f0.f1 x.f0.f2 L T D) (r := fun x => holP p x L T D) l (fun x hx => by
    obtain ⟨j, hj, rfl⟩ := List.mem_iff_getElem.1 hx
    have := hg j hj
    rw [List.getD_eq_getElem?_getD, List.getElem?_eq_getElem hj] at this
    exact impl_holds_ev this hb)
  refine ⟨K, fun k hk => ?_⟩
  have h := hK k hk
  unfold impl_inPiece.f
  show (if _ then some _ else none) = some _
  rw [if_pos ⟨hl0, List.all_eq_true.2 fun x hx => by rw [h x hx]; rfl⟩]
  congr 1
  rw [Bool.eq_iff_iff, List.any_eq_true, List.any_eq_true]
  have e : ∀ x ∈ l, impl_inPiece.p k p L T D x = (!samL x L T D && holP p x L T D) := fun x hx => by unfold impl_inPiece.p; rw [h x hx]; rfl
  constructor
  · rintro ⟨x, hx, hp⟩; exact ⟨x, hx, by rw [← e x hx]; exact hp⟩
  · rintro ⟨x, hx, hp⟩; exact ⟨x, hx, by rw [e x hx]; exact hp⟩
end
def mcode (p rL rT rD : Int) (l : List S72) (L T D : Int) : Int := if (measB p rL rT rD l && ballB p L T D) = true then (if holdsB p rL rT rD L T D then 0 else 2) else 1
theorem spec_l08Code_ev (p rL rT rD : Int) (l : List S72) (L T D : Int) (hl : l.length ≤ 4611686018427387904) : Ev (fun k => spec_l08Code.f k p rL rT rD l L T D) (mcode p rL rT rD l L T D) := by
  have stop : Ev (fun k => spec_l08Code.j0 k p true rL rT rD l L T D) 1 := by
    refine Ev.up ?_
    simp only [spec_l08Code.j0, if_true]
    exact Ev.now _
  unfold spec_l08Code.f mcode
  refine Ev.bind (spec_l08Is_ev hl) ?_
  cases hm : measB p rL rT rD l with
  | false => simp only [Bool.false_eq_true, if_false, Bool.false_and]; exact stop
  | true =>
    simp only [if_true, Bool.true_and]
    refine Ev.bind (spec_l01Is_ev _ _ _ _) ?_
    cases hb : ballB p L T D with
    | false => simp only [Bool.false_eq_true, if_false, Bool.not_false]; exact stop
    | true =>
      simp only [if_true, Bool.not_true]
      refine Ev.up ?_
      simp only [spec_l08Code.j0, Bool.false_eq_true, if_false]
      refine Ev.bind (spec_l01Holds_ev (measB_parts hm).1 hb) ?_
      cases holdsB p rL rT rD L T D with
      | true => simp only [if_true]; exact Ev.now _
      | false => simp only [Bool.false_eq_true, if_false]; exact Ev.now _
theorem impl_measureCode_ev (p rL rT rD : Int) (l : List S72) (L T D : Int) (hl : l.length ≤ 4611686018427387904) : Ev (fun k => impl_measureCode.f k p rL rT rD l L T D) (mcode p rL rT rD l L T D) := by
  have stop : Ev (fun k => impl_measureCode.j0 k p true rL rT rD l L T D) 1 := by
    refine Ev.up ?_
    simp only [impl_measureCode.j0, if_true]
    exact Ev.now _
  unfold impl_measureCode.f mcode
  refine Ev.bind (impl_IsMeasure_ev hl) ?_
  cases hm : measB p rL rT rD l with
  | false => simp only [Bool.false_eq_true, if_false, Bool.false_and]; exact stop
  | true =>
    simp only [if_true, Bool.true_and]
    refine Ev.bind (impl_IsBall_ev _ _ _ _) ?_
    cases hb : ballB p L T D with
    | false => simp only [Bool.false_eq_true, if_false, Bool.not_false]; exact stop
    | true =>
      simp only [if_true, Bool.not_true]
      refine Ev.up ?_
      simp only [impl_measureCode.j0, Bool.false_eq_true, if_false]
      refine Ev.bind (impl_holds_ev (measB_parts hm).1 hb) ?_
      cases holdsB p rL rT rD L T D with
      | true => simp only [if_true]; exact Ev.now _
      | false => simp only [Bool.false_eq_true, if_false]; exact Ev.now _
theorem mcode_zero {p rL rT rD : Int} {l : List S72} {L T D : Int} (h : mcode p rL rT rD l L T D = 0) : measB p rL rT rD l = true ∧ ballB p L T D = true ∧ holdsB p rL rT rD L T D = true := by
  unfold mcode at h
  by_cases h1 : (measB p rL rT rD l && ballB p L T D) = true
  · rw [if_pos h1] at h
    rw [Bool.and_eq_true] at h1
    by_cases h2 : holdsB p rL rT rD L T D = true
    · exact ⟨h1.1, h1.2, h2⟩
    · rw [if_neg h2] at h; omega
  · rw [if_neg h1] at h; omega

theorem holds_dvd {p L T D L' T' D' : Int} : holdsB p L T D L' T' D' = true ↔ L ≤ L' ∧ p ^ (L + 6).toNat ∣ markOf p T' D' - markOf p T D := by
  unfold holdsB
  rw [Bool.and_eq_true, decide_eq_true_eq, beq_iff_eq]
  exact ⟨fun h => ⟨h.1, Int.dvd_of_emod_eq_zero h.2⟩, fun h => ⟨h.1, Int.emod_eq_zero_of_dvd h.2⟩⟩

theorem toNat_pow {p : Int} (hp : 0 ≤ p) (n : Nat) : ((p.toNat ^ n : Nat) : Int) = p ^ n := by
  rw [Int.natCast_pow, Int.toNat_of_nonneg hp]
def clsP (p : Int) (x : S72) : Nat × Nat := (p.toNat ^ (x.f0.f0 + 6).toNat, (pM p x).toNat)
theorem cls_iff {p : Int} {x : S72} (h : pB p x = true) (y : Nat) : y % (clsP p x).1 = (clsP p x).2 ↔ (y : Int) % p ^ (x.f0.f0 + 6).toNat = pM p x := by
  have hp := (ball_parts h).1
  have hp2 := prime_lo hp
  have hm := mark_lt h
  have e : ((y % (clsP p x).1 : Nat) : Int) = (y : Int) % p ^ (x.f0.f0 + 6).toNat := by
    show ((y % p.toNat ^ (x.f0.f0 + 6).toNat : Nat) : Int) = _
    rw [Int.natCast_emod, toNat_pow (by omega)]
  have e2 : (((clsP p x).2 : Nat) : Int) = pM p x := Int.toNat_of_nonneg hm.1
  rw [← e, ← e2]
  exact ⟨fun h => by rw [h], fun h => Int.ofNat.inj h⟩
section
variable {p rL rT rD : Int} {l : List S72} (h : measB p rL rT rD l = true)
include h
theorem meas_sum : sumP p 6 l l.length = p ^ (6 - rL).toNat := by
  obtain ⟨hr, hlen, hg⟩ := measB_parts h
  obtain ⟨hp, hL, _⟩ := ball_parts hr
  have hp2 := prime_lo hp
  have hs : sumP p (12 + rL) l l.length = p ^ 12 := by
    unfold measB at h
    simp only [Bool.and_eq_true, beq_iff_eq] at h
    exact h.2.2.1.2
  have e := sumP_mul (p := p) (l := l) (e := 6) (f := 6 + rL) (by omega) l.length (fun j hj => (gB_lv (hg j hj)).2.1)
  rw [show (6 : Int) + (6 + rL) = 12 + rL by omega, hs] at e
  have e2 : p ^ 12 = p ^ (6 - rL).toNat * p ^ (6 + rL).toNat := by rw [← Int.pow_add]; congr 1; omega
  rw [e2] at e
  exact (Int.eq_of_mul_eq_mul_right (Int.pow_ne_zero (by omega)) e).symm
theorem meas_cover {y : Nat} (hy : (y : Int) < p ^ 12) (hyR : (y : Int) % p ^ (rL + 6).toNat = markOf p rT rD) : ∃ x ∈ l, (y : Int) % p ^ (x.f0.f0 + 6).toNat = pM p x := by
  obtain ⟨hr, hlen, hg⟩ := measB_parts h
  obtain ⟨hp, hL, _⟩ := ball_parts hr
  have hp2 := prime_lo hp
  have hpn : ((p.toNat : Nat) : Int) = p := Int.toNat_of_nonneg (by omega)
  have ho : ∀ x ∈ l, pB p x = true ∧ rL ≤ x.f0.f0 ∧ x.f0.f0 ≤ 6 ∧ holdsB p rL rT rD x.f0.f0 x.f0.f1 x.f0.f2 = true := fun x hx => by
    obtain ⟨i, hi, rfl⟩ := List.mem_iff_getElem.1 hx
    have e : l.getD i z72 = l[i] := by rw [List.getD_eq_getElem?_getD, List.getElem?_eq_getElem hi]; rfl
    have g := hg i hi
    have a := gB_lv g
    have b := gB_root g
    rw [e] at a b
    exact ⟨a.2.2, a.1, a.2.1, b⟩
  have hmr := mark_lt hr
  have hN : ∀ a : Nat, a ≤ 12 → ∃ q, p.toNat ^ 12 = q * p.toNat ^ a := fun a ha => ⟨p.toNat ^ (12 - a), by rw [← Nat.pow_add]; congr 1; omega⟩
  have hpos : 0 < p.toNat := by omega
  have key := cover (N := p.toNat ^ 12) (M := p.toNat ^ (rL + 6).toNat) (R := (markOf p rT rD).toNat) (l := l.map (clsP p)) (y := y)
    ⟨by
      have := hmr.2
      rw [← toNat_pow (by omega)] at this
      omega, hN _ (by omega)⟩
    (fun c hc => by
      obtain ⟨x, hx, rfl⟩ := List.mem_map.1 hc
      obtain ⟨a, b, c, d⟩ := ho x hx
      have := mark_lt a
      refine ⟨?_, hN _ (by omega)⟩
      show (pM p x).toNat < p.toNat ^ (x.f0.f0 + 6).toNat
      have h2 := this.2
      rw [← toNat_pow (by omega)] at h2
      have h1 : pM p x = markOf p x.f0.f1 x.f0.f2 := rfl
      omega)
    (fun c hc z hz => by
      obtain ⟨x, hx, rfl⟩ := List.mem_map.1 hc
      obtain ⟨a, b, c, d⟩ := ho x hx
      rw [cls_iff a] at hz
      rw [holds_dvd] at d
      have e1 : (z : Int) % p ^ (rL + 6).toNat = markOf p rT rD := by
        rw [← mark_mod hr]
        have e2 : (z : Int) % p ^ (rL + 6).toNat = pM p x % p ^ (rL + 6).toNat := by
          rw [← hz, Int.emod_emod_of_dvd _ (ipow_dvd p (by omega))]
        rw [e2]
        exact Int.emod_eq_emod_iff_emod_sub_eq_zero.2 (Int.emod_eq_zero_of_dvd d.2)
      have e3 : ((z % p.toNat ^ (rL + 6).toNat : Nat) : Int) = markOf p rT rD := by rw [Int.natCast_emod, toNat_pow (by omega)]; exact e1
      omega)
    (by
      rw [List.pairwise_map, List.pairwise_iff_getElem]
      intro i j hi hj hij z hz
      have hap := measB_apart h i j hij hj
      have ei : l.getD i z72 = l[i] := by rw [List.getD_eq_getElem?_getD, List.getElem?_eq_getElem hi]; rfl
      have ej : l.getD j z72 = l[j] := by rw [List.getD_eq_getElem?_getD, List.getElem?_eq_getElem hj]; rfl
      rw [ei, ej] at hap
      obtain ⟨a1, _⟩ := ho l[i] (List.getElem_mem hi)
      obtain ⟨b1, _⟩ := ho l[j] (List.getElem_mem hj)
      rw [cls_iff a1, cls_iff b1] at hz
      have two (x x' : S72) (hle : x.f0.f0 ≤ x'.f0.f0) (h1 : (z : Int) % p ^ (x.f0.f0 + 6).toNat = pM p x) (h2 : (z : Int) % p ^ (x'.f0.f0 + 6).toNat = pM p x') : hB p x x' = true := by
        unfold hB
        rw [holds_dvd]
        refine ⟨hle, ?_⟩
        have d1 : p ^ (x.f0.f0 + 6).toNat ∣ (z : Int) - pM p x := by rw [← h1]; exact Int.dvd_self_sub_emod
        have d2 : p ^ (x.f0.f0 + 6).toNat ∣ (z : Int) - pM p x' := Int.dvd_trans (ipow_dvd p (b := (x'.f0.f0 + 6).toNat) (by omega)) (by rw [← h2]; exact Int.dvd_self_sub_emod)
        have := Int.dvd_sub d1 d2
        rwa [show (z : Int) - pM p x - ((z : Int) - pM p x') = pM p x' - pM p x by omega] at this
      rcases Int.le_total l[i].f0.f0 l[j].f0.f0 with hle | hle
      · rw [two _ _ hle hz.1 hz.2] at hap; cases hap.1
      · rw [two _ _ hle hz.2 hz.1] at hap; cases hap.2)
    (by
      have hs := meas_sum h
      have part : ∀ n, n ≤ l.length → (((((l.take n).map (clsP p)).map fun c => p.toNat ^ 12 / c.1).sum : Nat) : Int) = sumP p 6 l n := by
        intro n
        induction n with
        | zero => intro _; rfl
        | succ n ih =>
          intro hn
          have hn' : n < l.length := by omega
          obtain ⟨_, _, c6, _⟩ := ho l[n] (List.getElem_mem hn')
          obtain ⟨b6, _⟩ := ho l[n] (List.getElem_mem hn')
          have lv := (ball_parts b6).2.1
          rw [List.take_succ_eq_append_getElem hn', List.map_append, List.map_append, List.sum_append, Int.natCast_add, ih (by omega)]
          simp only [sumP]
          congr 1
          rw [List.getD_eq_getElem?_getD, List.getElem?_eq_getElem hn']
          show (((p.toNat ^ 12 / p.toNat ^ (l[n].f0.f0 + 6).toNat) + 0 : Nat) : Int) = p ^ (6 - l[n].f0.f0).toNat
          rw [Nat.add_zero, Nat.pow_div (by omega) hpos, toNat_pow (by omega)]
          congr 1
          omega
      have := part l.length (Nat.le_refl _)
      rw [List.take_length, hs] at this
      have e : ((p.toNat ^ 12 / p.toNat ^ (rL + 6).toNat : Nat) : Int) = p ^ (6 - rL).toNat := by
        rw [Nat.pow_div (by omega) hpos, toNat_pow (by omega)]
        congr 1
        omega
      omega)
    (by
      rw [← toNat_pow (by omega)] at hy
      omega)
    (by
      have e3 : ((y % p.toNat ^ (rL + 6).toNat : Nat) : Int) = markOf p rT rD := by rw [Int.natCast_emod, toNat_pow (by omega)]; exact hyR
      omega)
  obtain ⟨c, hc, hz⟩ := key
  obtain ⟨x, hx, rfl⟩ := List.mem_map.1 hc
  exact ⟨x, hx, (cls_iff (ho x hx).1 y).1 hz⟩
end

def posI (p : Int) (out : List S72) (x : S72) : Nat → Nat
  | 0 => 0
  | n + 1 => if pM p (out.getD n z72) > pM p x then posI p out x n else n + 1
def insI (p : Int) (out : List S72) (x : S72) : List S72 := out.take (posI p out x out.length) ++ x :: out.drop (posI p out x out.length)
def isortN (p : Int) (l : List S72) : Nat → List S72
  | 0 => []
  | i + 1 => insI p (isortN p l i) (l.getD i z72)
theorem posI_le (p : Int) (out : List S72) (x : S72) (n : Nat) : posI p out x n ≤ n := by
  induction n with
  | zero => simp [posI]
  | succ n ih =>
    unfold posI
    split <;> omega
theorem insI_len (p : Int) (out : List S72) (x : S72) : (insI p out x).length = out.length + 1 := by
  have := posI_le p out x out.length
  unfold insI
  rw [List.length_append, List.length_take, List.length_cons, List.length_drop]
  omega
theorem isortN_len (p : Int) (l : List S72) (i : Nat) : (isortN p l i).length = i := by
  induction i with
  | zero => rfl
  | succ i ih => unfold isortN; rw [insI_len, ih]
theorem insI_perm (p : Int) (out : List S72) (x : S72) : (insI p out x).Perm (x :: out) := by
  unfold insI
  refine (List.perm_middle).trans ?_
  rw [List.take_append_drop]
theorem isortN_perm (p : Int) (l : List S72) (i : Nat) (hi : i ≤ l.length) : (isortN p l i).Perm (l.take i) := by
  induction i with
  | zero => simp [isortN]
  | succ i ih =>
    unfold isortN
    refine (insI_perm p _ _).trans ((List.Perm.cons _ (ih (by omega))).trans ?_)
    have e : l.take (i + 1) = l.take i ++ [l.getD i z72] := by
      rw [List.take_add_one, List.getD_eq_getElem?_getD, List.getElem?_eq_getElem (by omega)]; rfl
    rw [e]
    exact (List.perm_append_singleton _ _).symm
theorem getD_mem {l : List S72} {i : Nat} (h : i < l.length) : l.getD i z72 ∈ l := by
  rw [List.getD_eq_getElem?_getD, List.getElem?_eq_getElem h]
  exact List.getElem_mem h
theorem isortN_mem {p : Int} {l : List S72} {i : Nat} (hi : i ≤ l.length) {x : S72} (h : x ∈ isortN p l i) : x ∈ l := List.mem_of_mem_take ((isortN_perm p l i hi).mem_iff.1 h)
theorem spec_l08Sorted_ev {p : Int} {l : List S72} (hl : l.length ≤ 1048576) (hb : ∀ x ∈ l, pB p x = true) : Ev (fun k => spec_l08Sorted.f k p l) (isortN p l l.length) := by
  have inner : ∀ (i : Nat) (out : List S72) (r : List S72), i < l.length → out.length = i → (∀ x ∈ out, pB p x = true) → ∀ n, n ≤ out.length → Ev (fun k => spec_l08Sorted.l0 k p l (out.take (posI p out (l.getD i z72) n) ++ l.getD i z72 :: out.drop (posI p out (l.getD i z72) n)) ((i + 1 : Nat) : Int)) r → Ev (fun k => spec_l08Sorted.l1 k p l out i (n : Int)) r := by
    intro i out r hi ho hbo n
    induction n with
    | zero =>
      intro _ h
      refine Ev.up ?_
      simp only [spec_l08Sorted.l1]
      simp only [if_neg (show ¬ ((0 : Nat) : Int) > 0 by omega), if_pos (show (0 : Int) ≤ (i : Int) by omega), if_pos (show (i : Int) < (l.length : Int) by omega), Option.bind_some, if_pos (show (0 : Int) ≤ ((0 : Nat) : Int) by omega), if_pos (show ((0 : Nat) : Int) ≤ (out.length : Int) by omega), Int.toNat_natCast, List.length_append, List.length_take, List.length_drop, List.length_cons, List.length_nil, List.nil_append]
      simp only [if_pos (show 0 + 1 + (out.length - 0) < 4398046511104 by omega), if_pos (show 0 + min 0 out.length < 4398046511104 by omega), if_pos (show 0 + min 0 out.length + (0 + 1 + (out.length - 0)) < 4398046511104 by omega)]
      rw [wid (n := (i : Int) + 1) (by omega) (by omega)]
      exact h
    | succ n ih =>
      intro hn h
      have hm : out.getD n z72 ∈ out := getD_mem (by omega)
      refine Ev.up ?_
      simp only [spec_l08Sorted.l1]
      simp only [if_pos (show ((n + 1 : Nat) : Int) > 0 by omega)]
      rw [wid (n := ((n + 1 : Nat) : Int) - 1) (by omega) (by omega), show ((n + 1 : Nat) : Int) - 1 = (n : Int) by omega]
      simp only [if_pos (show (0 : Int) ≤ (n : Int) by omega), if_pos (show (n : Int) < (out.length : Int) by omega), if_pos (show (0 : Int) ≤ (i : Int) by omega), if_pos (show (i : Int) < (l.length : Int) by omega), rdP]
      refine Ev.bind (spec_l08Key_ev (hbo _ hm)) (Ev.bind (spec_l08Key_ev (hb _ (getD_mem hi))) ?_)
      by_cases hgt : pM p (out.getD n z72) > pM p (l.getD i z72)
      · simp only [if_pos (show markOf p (out.getD n z72).f0.f1 (out.getD n z72).f0.f2 > markOf p (l.getD i z72).f0.f1 (l.getD i z72).f0.f2 from hgt)]
        unfold posI at h
        rw [if_pos hgt] at h
        exact ih (by omega) h
      · unfold posI at h
        rw [if_neg hgt] at h
        simp only [if_neg (show ¬ markOf p (out.getD n z72).f0.f1 (out.getD n z72).f0.f2 > markOf p (l.getD i z72).f0.f1 (l.getD i z72).f0.f2 from hgt), Option.bind_some, if_pos (show (0 : Int) ≤ ((n + 1 : Nat) : Int) by omega), if_pos (show ((n + 1 : Nat) : Int) ≤ (out.length : Int) by omega), Int.toNat_natCast, List.length_append, List.length_take, List.length_drop, List.length_cons, List.length_nil, List.nil_append]
        simp only [if_pos (show 0 + 1 + (out.length - (n + 1)) < 4398046511104 by omega), if_pos (show 0 + min (n + 1) out.length < 4398046511104 by omega), if_pos (show 0 + min (n + 1) out.length + (0 + 1 + (out.length - (n + 1))) < 4398046511104 by omega)]
        rw [wid (n := (i : Int) + 1) (by omega) (by omega)]
        exact h
  unfold spec_l08Sorted.f
  have key : ∀ (d i : Nat), i + d = l.length → Ev (fun k => spec_l08Sorted.l0 k p l (isortN p l i) i) (isortN p l l.length) := by
    intro d
    induction d with
    | zero =>
      intro i hi
      obtain rfl : i = l.length := by omega
      refine Ev.up ?_
      simp only [spec_l08Sorted.l0, if_neg (show ¬ (l.length : Int) < (l.length : Int) by omega)]
      exact Ev.now _
    | succ d ih =>
      intro i hi
      refine Ev.up ?_
      simp only [spec_l08Sorted.l0, if_pos (show (i : Int) < (l.length : Int) by omega)]
      have hlen := isortN_len p l i
      refine inner i (isortN p l i) _ (by omega) hlen (fun x hx => hb x (isortN_mem (by omega) hx)) _ (Nat.le_refl _) ?_
      exact ih (i + 1) (by omega)
  exact key l.length 0 (by omega)
def toldW (p rL rT rD : Int) (q : List S72) : Int × Int × Int × List S72 × Int :=
  if q.length ≤ 64 ∧ q.all wB = true then (rL, rT, rD, isortN p q q.length, 0) else (0, 0, 0, [], 3)
theorem all_range {l : List S72} (f : S72 → Bool) : (List.range l.length).all (fun i => f (l.getD i z72)) = l.all f := by
  rw [Bool.eq_iff_iff, List.all_eq_true, List.all_eq_true]
  constructor
  · intro h x hx
    obtain ⟨i, hi, rfl⟩ := List.mem_iff_getElem.1 hx
    have := h i (List.mem_range.2 hi)
    rwa [List.getD_eq_getElem?_getD, List.getElem?_eq_getElem hi] at this
  · intro h i hi
    exact h _ (getD_mem (List.mem_range.1 hi))
theorem spec_l08Told_ev {p rL rT rD : Int} {q : List S72} (hl : q.length ≤ 1048576) (hb : ∀ x ∈ q, pB p x = true) : Ev (fun k => spec_l08Told.f k p rL rT rD q) (toldW p rL rT rD q) := by
  unfold spec_l08Told.f toldW
  by_cases h64 : (q.length : Int) > 64
  · simp only [if_pos h64]
    rw [if_neg (by omega)]
    exact Ev.now _
  · simp only [if_neg h64]
    have := all_evp (fun k i => spec_l08Told.l0 k p q (i : Int) rL rT rD) q.length (fun i => wB (q.getD i z72)) (rL, rT, rD, isortN p q q.length, (0 : Int)) (0, 0, 0, [], 3) (fun i r hi _ hpi hr => by
        refine Ev.up ?_
        simp only [spec_l08Told.l0, rdP, if_pos (show (i : Int) < (q.length : Int) by omega), if_pos (show (0 : Int) ≤ (i : Int) by omega)]
        refine Ev.bindv (In_eq _ _ _) ?_
        rw [show decide (-1000000 ≤ (q.getD i z72).f1 ∧ (q.getD i z72).f1 ≤ 1000000) = true from hpi, wid (n := (i : Int) + 1) (by omega) (by omega)]
        simp only [if_true]
        exact hr) (fun i hi _ hpi => by
        refine Ev.up ?_
        simp only [spec_l08Told.l0, rdP, if_pos (show (i : Int) < (q.length : Int) by omega), if_pos (show (0 : Int) ≤ (i : Int) by omega)]
        refine Ev.bindv (In_eq _ _ _) ?_
        rw [show decide (-1000000 ≤ (q.getD i z72).f1 ∧ (q.getD i z72).f1 ≤ 1000000) = false from hpi]
        simp only [Bool.false_eq_true, if_false]
        exact Ev.now _) (fun _ => by
        refine Ev.up ?_
        simp only [spec_l08Told.l0, if_neg (show ¬ (q.length : Int) < (q.length : Int) by omega)]
        exact Ev.bind (spec_l08Sorted_ev hl hb) (Ev.now _))
    rw [all_range] at this
    by_cases ha : q.all wB = true
    · rw [if_pos ha] at this; rw [if_pos ⟨by omega, ha⟩]; exact this
    · rw [if_neg ha] at this; rw [if_neg (fun h => ha h.2)]; exact this

theorem samL_iff {x : S72} {L T D : Int} : samL x L T D = true ↔ x.f0.f0 = L ∧ x.f0.f1 = T ∧ x.f0.f2 = D := by
  unfold samL
  simp only [Bool.and_eq_true, beq_iff_eq]
section
variable {p rL rT rD : Int} {l : List S72} (h : measB p rL rT rD l = true)
include h
theorem meas_own {i : Nat} (hi : i < l.length) : pB p (l.getD i z72) = true ∧ rL ≤ (l.getD i z72).f0.f0 ∧ (l.getD i z72).f0.f0 ≤ 6 ∧ holdsB p rL rT rD (l.getD i z72).f0.f0 (l.getD i z72).f0.f1 (l.getD i z72).f0.f2 = true := by
  obtain ⟨_, _, hg⟩ := measB_parts h
  have a := gB_lv (hg i hi)
  exact ⟨a.2.2, a.1, a.2.1, gB_root (hg i hi)⟩
theorem meas_asc : ∀ j, j < l.length → ∀ i, i < j → pM p (l.getD i z72) < pM p (l.getD j z72) := by
  obtain ⟨_, _, hg⟩ := measB_parts h
  intro j
  induction j with
  | zero => intro _ i hi; exact absurd hi (Nat.not_lt_zero _)
  | succ j ih =>
    intro hj i hi
    have hs : pM p (l.getD j z72) < pM p (l.getD (j + 1) z72) := by
      have g := hg (j + 1) hj
      unfold gB at g
      simp only [Bool.and_eq_true, Bool.or_eq_true, decide_eq_true_eq] at g
      rcases g.2.2 with g | g
      · omega
      · exact g
    rcases Nat.lt_or_ge i j with hl | hl
    · have := ih (by omega) i hl; omega
    · have : i = j := by omega
      subst this; exact hs
end
def sortW (p : Int) (l : List S72) : List S72 := l.mergeSort fun x y => decide (pM p x ≤ pM p y)
theorem sortW_perm (p : Int) (l : List S72) : (sortW p l).Perm l := List.mergeSort_perm l _
theorem sortW_len (p : Int) (l : List S72) : (sortW p l).length = l.length := (sortW_perm p l).length_eq
theorem nodup_inj {f : S72 → Int} {l : List S72} (h : (l.map f).Nodup) : ∀ x ∈ l, ∀ y ∈ l, f x = f y → x = y := by
  induction l with
  | nil => intro x hx; cases hx
  | cons a l ih =>
    rw [List.map_cons, List.nodup_cons] at h
    intro x hx y hy e
    rcases List.mem_cons.1 hx with hx1 | hx1 <;> rcases List.mem_cons.1 hy with hy1 | hy1
    · rw [hx1, hy1]
    · exact absurd (List.mem_map.2 ⟨y, hy1, by rw [← e, hx1]⟩) h.1
    · exact absurd (List.mem_map.2 ⟨x, hx1, by rw [e, hy1]⟩) h.1
    · exact ih h.2 x hx1 y hy1 e
theorem posI_split {p : Int} {out : List S72} {x : S72} (hs : out.Pairwise fun a b => pM p a ≤ pM p b) (n : Nat) (hn : n ≤ out.length) (hr : ∀ y ∈ out.drop n, pM p x ≤ pM p y) : (∀ y ∈ out.take (posI p out x n), pM p y ≤ pM p x) ∧ ∀ y ∈ out.drop (posI p out x n), pM p x ≤ pM p y := by
  induction n with
  | zero => exact ⟨fun y hy => by simp [posI] at hy, hr⟩
  | succ n ih =>
    have hd : out.drop n = out.getD n z72 :: out.drop (n + 1) := by
      rw [List.drop_eq_getElem_cons (by omega), List.getD_eq_getElem?_getD, List.getElem?_eq_getElem (by omega)]; rfl
    unfold posI
    by_cases hgt : pM p (out.getD n z72) > pM p x
    · rw [if_pos hgt]
      refine ih (by omega) (fun y hy => ?_)
      rw [hd] at hy
      rcases List.mem_cons.1 hy with rfl | hy
      · omega
      · exact hr y hy
    · rw [if_neg hgt]
      refine ⟨fun y hy => ?_, hr⟩
      obtain ⟨j, hj, rfl⟩ := List.mem_iff_getElem.1 hy
      rw [List.length_take] at hj
      rw [List.getElem_take]
      have e : out[n] = out.getD n z72 := by rw [List.getD_eq_getElem?_getD, List.getElem?_eq_getElem (by omega)]; rfl
      rcases Nat.lt_or_ge j n with hjn | hjn
      · have := List.pairwise_iff_getElem.1 hs j n (by omega) (by omega) hjn
        rw [e] at this
        omega
      · obtain rfl : j = n := by omega
        rw [e]; omega
theorem isortN_sorted (p : Int) (l : List S72) (i : Nat) : (isortN p l i).Pairwise fun a b => pM p a ≤ pM p b := by
  induction i with
  | zero => simp [isortN]
  | succ i ih =>
    unfold isortN insI
    generalize isortN p l i = out at ih
    generalize l.getD i z72 = x
    obtain ⟨h1, h2⟩ := posI_split (x := x) ih out.length (Nat.le_refl _) (fun y hy => by rw [List.drop_of_length_le (Nat.le_refl _)] at hy; cases hy)
    have hsp : (out.take (posI p out x out.length) ++ out.drop (posI p out x out.length)).Pairwise fun a b => pM p a ≤ pM p b := by rw [List.take_append_drop]; exact ih
    rw [List.pairwise_append] at hsp
    rw [List.pairwise_append]
    refine ⟨hsp.1, List.pairwise_cons.2 ⟨h2, hsp.2.1⟩, fun a ha b hb => ?_⟩
    rcases List.mem_cons.1 hb with rfl | hb
    · exact h1 a ha
    · exact hsp.2.2 a ha b hb
theorem isortN_sortW {p : Int} {l : List S72} (hnd : (l.map (pM p)).Nodup) : isortN p l l.length = sortW p l := by
  refine List.Perm.eq_of_pairwise (le := fun a b => pM p a ≤ pM p b) ?_ (isortN_sorted p l _) ?_ ?_
  · intro a b ha hb h1 h2
    exact nodup_inj hnd a (isortN_mem (Nat.le_refl _) ha) b ((sortW_perm p l).mem_iff.1 hb) (by omega)
  · have := List.pairwise_mergeSort (le := fun x y : S72 => decide (pM p x ≤ pM p y)) (fun a b c h1 h2 => by simp only [decide_eq_true_eq] at *; omega) (fun a b => by simp only [Bool.or_eq_true, decide_eq_true_eq]; omega) l
    exact this.imp (fun h => of_decide_eq_true h)
  · have h := isortN_perm p l l.length (Nat.le_refl _)
    rw [List.take_of_length_le (Nat.le_refl _)] at h
    exact h.trans (sortW_perm p l).symm
theorem impl_sorted_ev {p rL rT rD : Int} {l : List S72} (hl0 : 0 < l.length) (hl : l.length ≤ 1048576) (hb : ∀ x ∈ l, pB p x = true) (hnd : (l.map (pM p)).Nodup) : Ev (fun k => impl_sorted.f k p rL rT rD l) (rL, rT, rD, sortW p l) := by
  obtain ⟨K, hK⟩ := Ev.all (g := fun k (x : S72) => impl_mark.f k p x.f0.f0 x.f0.f1 x.f0.f2) (r := fun x => pM p x) l (fun x hx => impl_mark_ev (hb x hx))
  refine ⟨K, fun k hk => ?_⟩
  have h := hK k hk
  have hkey : ∀ x ∈ l, impl_sorted.key k p x = pM p x := fun x hx => by unfold impl_sorted.key; rw [h x hx]; rfl
  unfold impl_sorted.f
  show (if _ then some _ else none) = some _
  rw [if_pos ⟨⟨hl0, by omega⟩, List.all_eq_true.2 fun x hx => by rw [h x hx]; rfl, by rw [List.map_congr_left hkey]; exact hnd⟩]
  have hm := List.map_mergeSort (r := fun x y => decide (impl_sorted.key k p x ≤ impl_sorted.key k p y)) (s := fun x y => decide (pM p x ≤ pM p y)) (f := fun x : S72 => x) (l := l) (fun a ha b hb => by rw [hkey a ha, hkey b hb])
  simp only [List.map_id'] at hm
  rw [hm]
  rfl

theorem meas_ball {p rL rT rD : Int} {l : List S72} (h : measB p rL rT rD l = true) : ballB p rL rT rD = true ∧ (1 ≤ l.length ∧ l.length ≤ 64) ∧ (∀ x ∈ l, pB p x = true) ∧ l.all wB = true := by
  obtain ⟨h1, h2, h3⟩ := measB_parts h
  refine ⟨h1, h2, fun x hx => ?_, ?_⟩
  · obtain ⟨i, hi, rfl⟩ := List.mem_iff_getElem.1 hx
    have := (gB_lv (h3 i hi)).2.2
    rwa [List.getD_eq_getElem?_getD, List.getElem?_eq_getElem hi] at this
  · unfold measB at h
    simp only [Bool.and_eq_true] at h
    exact h.2.2.2

def nhB (p L T D : Int) (x : S72) : Bool := !holdsB p L T D x.f0.f0 x.f0.f1 x.f0.f2
theorem pieceAt_eq (rL rT rD : Int) (l : List S72) (L T D : Int) : ∃ g, impl_pieceAt.f rL rT rD l L T D = some g ∧ decide (0 ≤ g) = l.any fun x => samL x L T D := by
  unfold impl_pieceAt.f impl_pieceAt_at.f
  exact ⟨_, rfl, Go.Lib.idxBy_nonneg_iff (fun _ y => impl_pieceAt_at.p L T D y) l z72⟩
theorem fineB_stop {p L T D : Int} {l : List S72} {i : Nat} (h : fineB p L T D l i = false) (d : Nat) : fineB p L T D l (i + d) = false := by
  induction d with
  | zero => exact h
  | succ d ih =>
    rw [← Nat.add_assoc, fineB]
    split
    · rw [ih, Bool.false_and]
    · exact ih
theorem samL_holds {p : Int} {x : S72} {L T D : Int} (h : samL x L T D = true) : holP p x L T D = true := by
  obtain ⟨a, b, c⟩ := samL_iff.1 h
  unfold holP
  rw [holds_dvd, a, b, c]
  exact ⟨Int.le_refl _, by rw [Int.sub_self]; exact Int.dvd_zero _⟩
theorem within_or {p L T D : Int} (l : List S72) : ((l.any fun x => samL x L T D) || (l.any fun x => !samL x L T D && holP p x L T D)) = l.any fun x => holP p x L T D := by
  induction l with
  | nil => rfl
  | cons x l ih =>
    simp only [List.any_cons]
    rw [← ih]
    cases h : samL x L T D with
    | true => rw [samL_holds h]; simp
    | false =>
      cases holP p x L T D <;> simp
theorem withL_one (p L T D : Int) (l : List S72) : (withL p L T D l).1 = l.any fun x => holP p x L T D := by
  induction l with
  | nil => rfl
  | cons x l ih =>
    rw [withL_cons, List.any_cons]
    cases h : holP p x L T D with
    | true => rfl
    | false => simp only [Bool.false_eq_true, if_false, Bool.false_or]; exact ih
def coarsQ (p L T D : Int) (l : List S72) : List S72 := l.filter (nhB p L T D) ++ [⟨⟨L, T, D⟩, sumB p L T D l l.length⟩]
def coarsR (p rL rT rD L T D : Int) (l : List S72) : Int × Int × Int × List S72 × Int :=
  if fineB p L T D l l.length then (rL, rT, rD, sortW p (coarsQ p L T D l), 0) else (0, 0, 0, [], 3)
theorem fine_wB {p L T D : Int} {l : List S72} (n : Nat) (h : fineB p L T D l n = true) : -1000000 ≤ sumB p L T D l n ∧ sumB p L T D l n ≤ 1000000 := by
  induction n with
  | zero => exact ⟨(by decide : -1000000 ≤ (0 : Int)), (by decide : (0 : Int) ≤ 1000000)⟩
  | succ n ih =>
    cases hh : holdsB p L T D (l.getD n z72).f0.f0 (l.getD n z72).f0.f1 (l.getD n z72).f0.f2 with
    | true => rw [fineB, hh, if_pos rfl, Bool.and_eq_true, decide_eq_true_eq] at h; exact h.2
    | false =>
      rw [fineB, hh] at h
      rw [sumB, hh]
      exact ih h
section
variable {p rL rT rD L T D : Int} {l : List S72} (h : measB p rL rT rD l = true) (hb : ballB p L T D = true) (hr : holdsB p rL rT rD L T D = true) (hno : (l.any fun x => holP p x L T D) = false)
include h hb hr hno
theorem coars_some : ∃ x ∈ l, holdsB p L T D x.f0.f0 x.f0.f1 x.f0.f2 = true := by
  obtain ⟨hrb, hlen, hg⟩ := measB_parts h
  obtain ⟨hp, hrL, _⟩ := ball_parts hrb
  obtain ⟨_, hL, _⟩ := ball_parts hb
  have hp2 := prime_lo hp
  have hm := mark_lt hb
  obtain ⟨y, hy⟩ : ∃ y : Nat, (y : Int) = markOf p T D := ⟨(markOf p T D).toNat, Int.toNat_of_nonneg hm.1⟩
  rw [holds_dvd] at hr
  have hylt : (y : Int) < p ^ (L + 6).toNat := by rw [hy]; exact hm.2
  have hy12 : (y : Int) < p ^ 12 := by
    have : p ^ (L + 6).toNat ≤ p ^ 12 := by
      rw [show (12 : Nat) = (L + 6).toNat + (12 - (L + 6).toNat) by omega, Int.pow_add]
      have q := ipow_pos (p := p) (by omega) (12 - (L + 6).toNat)
      have hpos := ipow_pos (p := p) (by omega) (L + 6).toNat
      have := Int.mul_le_mul_of_nonneg_left (c := p ^ (L + 6).toNat) q (by omega)
      omega
    omega
  have hyR : (y : Int) % p ^ (rL + 6).toNat = markOf p rT rD := by
    rw [hy, ← mark_mod hrb]
    exact Int.emod_eq_emod_iff_emod_sub_eq_zero.2 (Int.emod_eq_zero_of_dvd hr.2)
  obtain ⟨z, hz, hzy⟩ := meas_cover h hy12 hyR
  obtain ⟨m, hml, hmz⟩ := List.mem_iff_getElem.1 hz
  have em : l.getD m z72 = z := by rw [List.getD_eq_getElem?_getD, List.getElem?_eq_getElem hml, ← hmz]; rfl
  obtain ⟨c1, c2, c3, _⟩ := meas_own h hml
  rw [em] at c1 c2 c3
  have hzd : p ^ (z.f0.f0 + 6).toNat ∣ markOf p T D - pM p z := by rw [← hzy, hy]; exact Int.dvd_self_sub_emod
  refine ⟨z, hz, ?_⟩
  rcases Int.le_total z.f0.f0 L with hle | hle
  · have : holP p z L T D = true := by unfold holP; rw [holds_dvd]; exact ⟨hle, hzd⟩
    have := List.any_eq_false.1 hno z hz
    contradiction
  · rw [holds_dvd]
    refine ⟨hle, ?_⟩
    have d := Int.dvd_trans (ipow_dvd p (b := (z.f0.f0 + 6).toNat) (a := (L + 6).toNat) (by omega)) hzd
    have d2 := Int.dvd_neg.2 d
    rwa [Int.neg_sub] at d2
omit hr in
theorem coars_nodup : ((coarsQ p L T D l).map (pM p)).Nodup := by
  have hasc := meas_asc h
  obtain ⟨hrb, hlen, hg⟩ := measB_parts h
  unfold coarsQ
  rw [List.map_append, List.nodup_append]
  refine ⟨?_, by simp, ?_⟩
  · have hl : (l.map (pM p)).Pairwise (· < ·) := by
      rw [List.pairwise_map, List.pairwise_iff_getElem]
      intro i j hi hj hij
      have := hasc j hj i hij
      rwa [List.getD_eq_getElem?_getD, List.getElem?_eq_getElem hi, List.getD_eq_getElem?_getD, List.getElem?_eq_getElem hj] at this
    rw [List.pairwise_map] at hl
    have := (hl.filter (nhB p L T D))
    rw [List.Nodup, List.pairwise_map]
    exact this.imp (fun h => by omega)
  · intro a ha c hc e
    obtain ⟨x, hx, rfl⟩ := List.mem_map.1 ha
    obtain ⟨y, hy, rfl⟩ := List.mem_map.1 hc
    rw [List.mem_singleton.1 hy] at e
    obtain ⟨hx1, hx2⟩ := List.mem_filter.1 hx
    unfold nhB at hx2
    rw [Bool.not_eq_true', Bool.eq_false_iff] at hx2
    have e2 : markOf p x.f0.f1 x.f0.f2 = markOf p T D := e
    rcases Int.le_total x.f0.f0 L with hle | hle
    · have : holP p x L T D = true := by unfold holP; rw [holds_dvd, e2]; exact ⟨hle, by rw [Int.sub_self]; exact Int.dvd_zero _⟩
      have := List.any_eq_false.1 hno x hx1
      contradiction
    · exact hx2 (by rw [holds_dvd, e2]; exact ⟨hle, by rw [Int.sub_self]; exact Int.dvd_zero _⟩)
theorem coars_len : (coarsQ p L T D l).length ≤ 64 := by
  obtain ⟨_, hlen, _⟩ := measB_parts h
  obtain ⟨x, hx, hh⟩ := coars_some h hb hr hno
  unfold coarsQ
  rw [List.length_append]
  have : (l.filter (nhB p L T D)).length < l.length := List.length_filter_lt_length_iff_exists.2 ⟨x, hx, by unfold nhB; rw [hh]; decide⟩
  simp
  omega
omit hr hno in
theorem coars_ball : ∀ x ∈ coarsQ p L T D l, pB p x = true := by
  obtain ⟨_, _, hl, _⟩ := meas_ball h
  intro x hx
  rcases List.mem_append.1 hx with hx | hx
  · exact hl x (List.mem_filter.1 hx).1
  · rw [List.mem_singleton.1 hx]; exact hb
theorem spec_coars : Ev (fun k => spec_CoarsenAt.l0 k p [] 0 0 rL rT rD l L T D) (coarsR p rL rT rD L T D l) := by
  obtain ⟨_, hlen, hl, hw⟩ := meas_ball h
  have hball := coars_ball h hb
  have hlq := coars_len h hb hr hno
  have hnd := coars_nodup h hb hno
  have key : ∀ (d i : Nat), i + d = l.length → fineB p L T D l i = true → Ev (fun k => spec_CoarsenAt.l0 k p ((l.take i).filter (nhB p L T D)) (sumB p L T D l i) i rL rT rD l L T D) (coarsR p rL rT rD L T D l) := by
    intro d
    induction d with
    | zero =>
      intro i hi hf
      obtain rfl : i = l.length := by omega
      refine Ev.up ?_
      simp only [spec_CoarsenAt.l0, if_neg (show ¬ (l.length : Int) < (l.length : Int) by omega), Option.bind_some]
      rw [List.take_length]
      have hq : l.filter (nhB p L T D) ++ [(⟨⟨L, T, D⟩, sumB p L T D l l.length⟩ : S72)] = coarsQ p L T D l := rfl
      have hfl : (l.filter (nhB p L T D)).length ≤ l.length := List.length_filter_le _ _
      simp only [if_pos (show (l.filter (nhB p L T D)).length + ([(⟨⟨L, T, D⟩, sumB p L T D l l.length⟩ : S72)] : List S72).length < 4398046511104 by simp; omega)]
      rw [hq]
      refine Ev.bind (spec_l08Told_ev (by omega) hball) ?_
      unfold toldW coarsR
      rw [if_pos ⟨hlq, by
        rw [List.all_eq_true]
        intro x hx
        rcases List.mem_append.1 hx with hx | hx
        · exact List.all_eq_true.1 hw x (List.mem_filter.1 hx).1
        · rw [List.mem_singleton.1 hx]; exact decide_eq_true (fine_wB _ hf)⟩, if_pos hf, isortN_sortW hnd]
      exact Ev.now _
    | succ d ih =>
      intro i hi hf
      have hil : i < l.length := by omega
      have eg : l.getD i z72 = l[i] := by rw [List.getD_eq_getElem?_getD, List.getElem?_eq_getElem hil]; rfl
      refine Ev.up ?_
      simp only [spec_CoarsenAt.l0, rdP]
      simp only [if_pos (show (i : Int) < (l.length : Int) by omega), if_pos (show (0 : Int) ≤ (i : Int) by omega)]
      refine Ev.bind (spec_l01Holds_ev hb (by rw [eg]; exact hl _ (List.getElem_mem hil))) ?_
      rw [wid (n := (i : Int) + 1) (by omega) (by omega)]
      have ht : (l.take (i + 1)).filter (nhB p L T D) = (l.take i).filter (nhB p L T D) ++ [l[i]].filter (nhB p L T D) := by rw [List.take_succ_eq_append_getElem hil, List.filter_append]
      cases hh : holdsB p L T D (l.getD i z72).f0.f0 (l.getD i z72).f0.f1 (l.getD i z72).f0.f2 with
      | true =>
        have e1 : sumB p L T D l (i + 1) = wrap64 (sumB p L T D l i + (l.getD i z72).f1) := by rw [sumB, hh]; rfl
        have e2 : fineB p L T D l (i + 1) = decide (-1000000 ≤ wrap64 (sumB p L T D l i + (l.getD i z72).f1) ∧ wrap64 (sumB p L T D l i + (l.getD i z72).f1) ≤ 1000000) := by rw [fineB, hh, if_pos rfl, hf, e1, Bool.true_and]
        have e3 : [l[i]].filter (nhB p L T D) = [] := by rw [List.filter_cons_of_neg (by unfold nhB; rw [← eg, hh]; decide)]; rfl
        simp only [if_true]
        refine Ev.bindv (In_eq _ _ _) ?_
        rw [← e2]
        cases hf2 : fineB p L T D l (i + 1) with
        | true =>
          simp only [if_true]
          have := ih (i + 1) (by omega) hf2
          rw [ht, e3, List.append_nil, e1] at this
          exact this
        | false =>
          simp only [Bool.false_eq_true, if_false]
          have := fineB_stop hf2 d
          rw [show i + 1 + d = l.length by omega] at this
          unfold coarsR
          rw [this]
          exact Ev.now _
      | false =>
        have e1 : sumB p L T D l (i + 1) = sumB p L T D l i := by rw [sumB, hh]; rfl
        have e2 : fineB p L T D l (i + 1) = true := by rw [fineB, hh]; exact hf
        have e3 : [l[i]].filter (nhB p L T D) = [l[i]] := by rw [List.filter_cons_of_pos (by unfold nhB; rw [← eg, hh]; decide)]; rfl
        simp only [Bool.false_eq_true, if_false, Option.bind_some]
        have hfl : ((l.take i).filter (nhB p L T D)).length ≤ (l.take i).length := List.length_filter_le _ _
        rw [List.length_take] at hfl
        have := ih (i + 1) (by omega) e2
        rw [ht, e3, e1] at this
        simp only [List.length_cons, List.length_nil, if_pos (show ((l.take i).filter (nhB p L T D)).length + (0 + 1) < 4398046511104 by omega)]
        rw [eg]
        exact this
  exact key l.length 0 (by omega) rfl
theorem impl_coars : Ev (fun k => impl_CoarsenAt.j0 k false p rL rT rD l L T D) (coarsR p rL rT rD L T D l) := by
  obtain ⟨_, hlen, hl, hw⟩ := meas_ball h
  have hball := coars_ball h hb
  have hlq := coars_len h hb hr hno
  have hnd := coars_nodup h hb hno
  have hg : ∀ j, j < l.length → pB p (l.getD j z72) = true := fun j hj => (meas_own h hj).1
  refine Ev.up ?_
  simp only [impl_CoarsenAt.j0, Bool.false_eq_true, if_false]
  refine Ev.bind (impl_total_ev hlen.2 hb hg) ?_
  unfold coarsR
  cases hf : fineB p L T D l l.length with
  | false => simp only [Bool.false_eq_true, if_false]; exact Ev.now _
  | true =>
    simp only [if_true]
    refine Ev.bindv (a := l) (by unfold slices_Clone_impl_Piece.f; rw [if_pos ⟨by omega, by omega⟩]) ?_
    have hdel : Ev (fun k => impl_CoarsenAt_del.f k l p L T D) (l.filter (nhB p L T D)) := by
      obtain ⟨K, hK⟩ := Ev.all (g := fun k (x : S72) => impl_holds.f k p L T D x.f0.f0 x.f0.f1 x.f0.f2) (r := fun x => holdsB p L T D x.f0.f0 x.f0.f1 x.f0.f2) l (fun x hx => impl_holds_ev hb (hl x hx))
      refine ⟨K, fun k hk => ?_⟩
      have h := hK k hk
      show impl_CoarsenAt_del.f k l p L T D = some _
      unfold impl_CoarsenAt_del.f
      rw [if_pos ⟨by omega, List.all_eq_true.2 fun x hx => by rw [h x hx]; rfl⟩]
      congr 1
      exact List.filter_congr fun x hx => by rw [h x hx]; rfl
    refine Ev.bind hdel ?_
    have hfl : (l.filter (nhB p L T D)).length ≤ l.length := List.length_filter_le _ _
    simp only [if_pos (show (l.filter (nhB p L T D)).length < 4398046511104 by omega)]
    have hq : l.filter (nhB p L T D) ++ [(⟨⟨L, T, D⟩, sumB p L T D l l.length⟩ : S72)] = coarsQ p L T D l := rfl
    rw [hq]
    exact Ev.bind (impl_sorted_ev (by unfold coarsQ; rw [List.length_append]; simp) (by omega) hball hnd) (Ev.now _)
end
theorem coarsR_len {p rL rT rD L T D : Int} {l : List S72} (h : measB p rL rT rD l = true) (hb : ballB p L T D = true) (hr : holdsB p rL rT rD L T D = true) (hno : (l.any fun x => holP p x L T D) = false) : (coarsR p rL rT rD L T D l).2.2.2.1.length ≤ 64 := by
  have := coars_len h hb hr hno
  unfold coarsR
  split
  · show (sortW p _).length ≤ 64; rw [sortW_len]; exact this
  · exact Nat.zero_le _
theorem coarsen_both (p rL rT rD : Int) (l : List S72) (L T D : Int) (hl : l.length ≤ 1048576) : ∃ r : Int × Int × Int × List S72 × Int, r.2.2.2.1.length ≤ 64 ∧ Ev (fun k => impl_CoarsenAt.f k p rL rT rD l L T D) r ∧ Ev (fun k => spec_CoarsenAt.f k p rL rT rD l L T D) r := by
  have hs := spec_l08Code_ev p rL rT rD l L T D (by omega)
  have hi := impl_measureCode_ev p rL rT rD l L T D (by omega)
  unfold impl_CoarsenAt.f spec_CoarsenAt.f
  by_cases h0 : mcode p rL rT rD l L T D = 0
  · rw [h0] at hs hi
    obtain ⟨hm, hb, hr⟩ := mcode_zero h0
    obtain ⟨h1, h2, h3⟩ := measB_parts hm
    have hg : ∀ j, j < l.length → pB p (l.getD j z72) = true := fun j hj => (gB_lv (h3 j hj)).2.2
    have hin := impl_inPiece_ev (rL := rL) (rT := rT) (rD := rD) hb hg (by omega : 0 < l.length)
    have hw := spec_within_ev (rL := rL) (rT := rT) (rD := rD) h2.2 hb hg
    obtain ⟨g, hg1, hg2⟩ := pieceAt_eq rL rT rD l L T D
    have hor := within_or (p := p) (L := L) (T := T) (D := D) l
    have h1w := withL_one p L T D l
    cases hany : l.any fun x => holP p x L T D with
    | true =>
      rw [hany] at hor h1w
      refine ⟨(0, 0, 0, [], 5), Nat.zero_le _, Ev.bind hi ?_, Ev.bind hs ?_⟩
      · simp only [if_true]
        refine Ev.bindv hg1 ?_
        by_cases hge : g ≥ 0
        · simp only [if_pos hge]
          refine Ev.up ?_
          simp only [impl_CoarsenAt.j0, if_true]
          exact Ev.now _
        · simp only [if_neg hge]
          rw [show (l.any fun x => samL x L T D) = false by rw [← hg2]; exact decide_eq_false (by omega), Bool.false_or] at hor
          rw [hor] at hin
          refine Ev.bind hin (Ev.up ?_)
          simp only [impl_CoarsenAt.j0, if_true]
          exact Ev.now _
      · simp only [if_true]
        refine Ev.bind hw ?_
        simp only [h1w, if_true]
        exact Ev.now _
    | false =>
      rw [hany] at hor h1w
      obtain ⟨o1, o2⟩ := Bool.or_eq_false_iff.1 hor
      rw [o1] at hg2
      have hge : ¬ g ≥ 0 := by have := of_decide_eq_false hg2; omega
      rw [o2] at hin
      refine ⟨coarsR p rL rT rD L T D l, coarsR_len hm hb hr hany, Ev.bind hi ?_, Ev.bind hs ?_⟩
      · simp only [if_true]
        refine Ev.bindv hg1 ?_
        simp only [if_neg hge]
        exact Ev.bind hin (impl_coars hm hb hr hany)
      · simp only [if_true]
        refine Ev.bind hw ?_
        simp only [h1w, Bool.false_eq_true, if_false]
        exact spec_coars hm hb hr hany
  · refine ⟨(0, 0, 0, [], mcode p rL rT rD l L T D), Nat.zero_le _, Ev.bind hi ?_, Ev.bind hs ?_⟩
    · simp only [if_neg h0]; exact Ev.now _
    · simp only [if_neg h0]; exact Ev.now _

def convP (x : S103) : S72 := ⟨⟨x.f0.f0, x.f0.f1, x.f0.f2⟩, x.f1⟩
theorem laws_toBall_eq (a b c : Int) : laws_toBall.f a b c = some (a, b, c) := by simp [laws_toBall.f]
theorem laws_eqBall_eq (a b c : Int) : laws_eqBall.f a b c a b c = some true := by simp [laws_eqBall.f]
theorem laws_toPiece_eq (a b c d : Int) : laws_toPiece.f a b c d = some (a, b, c, d) := by simp only [laws_toPiece.f, laws_toBall_eq, Option.bind_some]
theorem laws_eqPiece_eq (a b c d : Int) : laws_eqPiece.f a b c d a b c d = some true := by simp only [laws_eqPiece.f, laws_eqBall_eq, Option.bind_some, if_true]
theorem laws_toPieceS_ev (l : List S103) (hl : l.length ≤ 8796093022208) : Ev (fun k => laws_toPieceS.f k l) (l.map convP) := by
  refine Ev.congr (f := fun k => laws_toPieceS.l0 k l (List.replicate l.length z72) 0) (fun k => ?_) ?_
  · unfold laws_toPieceS.f
    rw [if_pos (by omega), if_pos (by rw [Int.toNat_natCast]; exact hl), Int.toNat_natCast]
  · refine copy_ev' (fun k dst i => laws_toPieceS.l0 k l dst i) (l.map convP) ?_ ?_ _ (by simp)
    · intro dst i h r hd hr
      have hi : i < l.length := by simpa using h
      have hd' : dst.length = l.length := by simpa using hd
      have e : (l.map convP)[i] = convP l[i] := by simp
      rw [e] at hr
      have er : rd_T103 l (i : Int) = l[i] := by
        show l.getD i z103 = l[i]
        rw [List.getD_eq_getElem?_getD, List.getElem?_eq_getElem hi]; rfl
      refine Ev.step (f := fun k => laws_toPieceS.l0 k l (dst.set i (convP l[i])) ((i : Int) + 1)) (fun k => ?_) hr
      simp only [laws_toPieceS.l0, er, laws_toPiece_eq, Option.bind_some]
      simp only [if_pos (show (i : Int) < (l.length : Int) by omega), if_pos (show (0 : Int) ≤ (i : Int) by omega), if_pos (show (i : Int) < (dst.length : Int) by omega), Int.toNat_natCast, wid (n := (i : Int) + 1) (by omega) (by omega)]
      rfl
    · intro dst hd
      refine Ev.step (f := fun _ => some dst) (fun k => ?_) (Ev.now _)
      simp only [laws_toPieceS.l0]
      rw [if_neg (by simp)]
theorem laws_eqPieceS_ev (l : List S72) (hl : l.length ≤ 4611686018427387904) : Ev (fun k => laws_eqPieceS.f k l l) true := by
  have key : ∀ (d i : Nat), i + d = l.length → Ev (fun k => laws_eqPieceS.l0 k l l i) true := by
    intro d
    induction d with
    | zero => intro i hi; exact Ev.step (f := fun _ => some true) (fun k => by simp only [laws_eqPieceS.l0]; rw [if_neg (by omega)]) (Ev.now _)
    | succ d ih =>
      intro i hi
      refine Ev.step (f := fun k => laws_eqPieceS.l0 k l l ((i + 1 : Nat) : Int)) (fun k => ?_) (ih (i + 1) (by omega))
      simp only [laws_eqPieceS.l0, laws_eqPiece_eq, Option.bind_some, if_true]
      rw [if_pos (by omega), if_pos (by omega), if_pos (by omega), wid (n := (i : Int) + 1) (by omega) (by omega)]; rfl
  refine Ev.congr (f := fun k => laws_eqPieceS.l0 k l l 0) (fun k => ?_) (key l.length 0 (by omega))
  unfold laws_eqPieceS.f; rw [if_pos rfl]
theorem laws_toMeasure_ev (a b c : Int) (l : List S103) (hl : l.length ≤ 8796093022208) : Ev (fun k => laws_toMeasure.f k a b c l) (a, b, c, l.map convP) := by
  unfold laws_toMeasure.f
  refine Ev.bindv (laws_toBall_eq a b c) (Ev.bind (laws_toPieceS_ev l hl) (Ev.now _))
theorem laws_eqMeasure_ev (a b c : Int) (l : List S72) (hl : l.length ≤ 4611686018427387904) : Ev (fun k => laws_eqMeasure.f k a b c l a b c l) true := by
  unfold laws_eqMeasure.f
  refine Ev.bindv (laws_eqBall_eq a b c) ?_
  simp only [if_true]
  refine Ev.bind (laws_eqPieceS_ev l hl) ?_
  simp only [if_true]
  exact Ev.now _
theorem szP (n : Nat) (hn : n ≤ maxLen) : wrap64 (1048576 - (n : Int)) = 1048576 - (n : Int) := by
  have : maxLen = 9223372036854775807 := rfl
  exact wid (by omega) (by omega)
theorem laws_szMeasure_eq (a b c : Int) (l : List S103) (hl : l.length ≤ maxLen) : laws_szMeasure.f a b c l 1048576 = some (if 1048576 - (l.length : Int) < 0 then -1 else 1048576 - (l.length : Int)) := by
  unfold laws_szMeasure.f laws_szPieceS.f
  rw [szP l.length hl]
  by_cases h : 1048576 - (l.length : Int) < 0
  · simp only [if_pos h, Option.bind_some, if_pos (show (-1 : Int) < 0 by decide)]
  · simp only [if_neg h, Option.bind_some]

theorem rdPi_set {x : List S72} {i : Nat} (h : i < x.length) (v : S72) : rd_T72 (x.set i v) (i : Int) = v := by
  show (x.set i v).getD i z72 = v
  rw [List.getD_eq_getElem?_getD, List.getElem?_set_self h]; rfl
def mkP (j : Nat) : S72 := ⟨⟨1 + 4 * (j : Int), 1 + 4 * (j : Int) + 1, 1 + 4 * (j : Int) + 1 + 1⟩, 1 + 4 * (j : Int) + 1 + 1 + 1⟩
theorem getDP_set {x : List S72} {i j : Nat} (h : i < x.length) (v : S72) : (x.set i v).getD j z72 = if j = i then v else x.getD j z72 := by
  rw [List.getD_eq_getElem?_getD, List.getElem?_set]
  by_cases e : i = j
  · rw [if_pos e, if_pos e.symm, if_pos h]; rfl
  · rw [if_neg e, if_neg (fun h => e h.symm), List.getD_eq_getElem?_getD]
theorem markPieceS_at (l : List S72) (hl : l.length ≤ 1048576) (s : Int) (h0 : 0 ≤ s) (h1 : s ≤ 1073741824) : ∃ x, Ev (fun k => laws_markPieceS.f k l s) (s + 4 * (l.length : Int), x) := by
  have key : ∀ (d i : Nat) (x : List S72), i + d = l.length → x.length = l.length → ∃ x', Ev (fun k => laws_markPieceS.l0 k x (s + 4 * (i : Int)) i) (s + 4 * (l.length : Int), x') := by
    intro d
    induction d with
    | zero =>
      intro i x hi hx
      obtain rfl : i = l.length := by omega
      refine ⟨x, Ev.up ?_⟩
      simp only [laws_markPieceS.l0, if_neg (show ¬ (l.length : Int) < (x.length : Int) by omega)]
      exact Ev.now _
    | succ d ih =>
      intro i x hi hx
      have hix : i < x.length := by omega
      obtain ⟨x', h'⟩ := ih (i + 1) (x.set i ⟨⟨s + 4 * (i : Int), s + 4 * (i : Int) + 1, s + 4 * (i : Int) + 1 + 1⟩, s + 4 * (i : Int) + 1 + 1 + 1⟩) (by omega) (by rw [List.length_set]; exact hx)
      refine ⟨x', Ev.up ?_⟩
      simp only [laws_markPieceS.l0, if_pos (show (i : Int) < (x.length : Int) by omega), if_pos (show (0 : Int) ≤ (i : Int) by omega), Option.bind_some, Int.toNat_natCast]
      rw [wid (n := s + 4 * (i : Int) + 1) (by omega) (by omega), wid (n := s + 4 * (i : Int) + 1 + 1) (by omega) (by omega), wid (n := s + 4 * (i : Int) + 1 + 1 + 1) (by omega) (by omega), wid (n := s + 4 * (i : Int) + 1 + 1 + 1 + 1) (by omega) (by omega), wid (n := (i : Int) + 1) (by omega) (by omega)]
      simp only [rdPi_set hix, List.set_set]
      rw [show s + 4 * (i : Int) + 1 + 1 + 1 + 1 = s + 4 * ((i + 1 : Nat) : Int) by omega]
      exact h'
  obtain ⟨x, hx⟩ := key l.length 0 l (by omega) rfl
  refine ⟨x, ?_⟩
  unfold laws_markPieceS.f
  rw [show s + 4 * ((0 : Nat) : Int) = s by omega] at hx
  exact hx
theorem markMeasure_at (a b c : Int) (l : List S72) (hl : l.length ≤ 1048576) (s : Int) (h0 : 0 ≤ s) (h1 : s ≤ 1073741824) : ∃ x, Ev (fun k => laws_markMeasure.f k a b c l s) (s + 4 * (l.length : Int), x) := by
  obtain ⟨x, h⟩ := markPieceS_at l hl s h0 h1
  unfold laws_markMeasure.f
  exact ⟨x, Ev.bind h (Ev.now _)⟩
theorem markMeasure_held (a b c : Int) (l : List S72) (hl : l.length ≤ 1048576) : ∃ x, Ev (fun k => laws_markMeasure.f k a b c l 1) (1 + 4 * (l.length : Int), x) ∧ ∀ a' b' c', Ev (fun k => laws_heldMeasure.f k a' b' c' x 1) (1 + 4 * (l.length : Int)) := by
  have key : ∀ (d i : Nat) (x : List S72), i + d = l.length → x.length = l.length → (∀ j, j < i → x.getD j z72 = mkP j) → ∃ x', (x'.length = l.length ∧ ∀ j, j < l.length → x'.getD j z72 = mkP j) ∧ Ev (fun k => laws_markPieceS.l0 k x (1 + 4 * (i : Int)) i) (1 + 4 * (l.length : Int), x') := by
    intro d
    induction d with
    | zero =>
      intro i x hi hx hj
      obtain rfl : i = l.length := by omega
      refine ⟨x, ⟨hx, hj⟩, Ev.up ?_⟩
      simp only [laws_markPieceS.l0, if_neg (show ¬ (l.length : Int) < (x.length : Int) by omega)]
      exact Ev.now _
    | succ d ih =>
      intro i x hi hx hj
      have hix : i < x.length := by omega
      obtain ⟨x', q', h'⟩ := ih (i + 1) (x.set i (mkP i)) (by omega) (by rw [List.length_set]; exact hx) (fun j hj2 => by
        rw [getDP_set hix]
        by_cases e : j = i
        · rw [if_pos e, e]
        · rw [if_neg e]; exact hj j (by omega))
      refine ⟨x', q', Ev.up ?_⟩
      simp only [laws_markPieceS.l0, if_pos (show (i : Int) < (x.length : Int) by omega), if_pos (show (0 : Int) ≤ (i : Int) by omega), Option.bind_some, Int.toNat_natCast]
      rw [wid (n := 1 + 4 * (i : Int) + 1) (by omega) (by omega), wid (n := 1 + 4 * (i : Int) + 1 + 1) (by omega) (by omega), wid (n := 1 + 4 * (i : Int) + 1 + 1 + 1) (by omega) (by omega), wid (n := 1 + 4 * (i : Int) + 1 + 1 + 1 + 1) (by omega) (by omega), wid (n := (i : Int) + 1) (by omega) (by omega)]
      simp only [rdPi_set hix, List.set_set]
      rw [show 1 + 4 * (i : Int) + 1 + 1 + 1 + 1 = 1 + 4 * ((i + 1 : Nat) : Int) by omega]
      exact h'
  obtain ⟨x, ⟨x1, x2⟩, hx⟩ := key l.length 0 l (by omega) rfl (fun j hj => absurd hj (by omega))
  have held : ∀ (d i : Nat), i + d = x.length → Ev (fun k => laws_heldPieceS.l0 k x (1 + 4 * (i : Int)) i) (1 + 4 * (x.length : Int)) := by
    intro d
    induction d with
    | zero =>
      intro i hi
      obtain rfl : i = x.length := by omega
      refine Ev.up ?_
      simp only [laws_heldPieceS.l0, if_neg (show ¬ (x.length : Int) < (x.length : Int) by omega)]
      exact Ev.now _
    | succ d ih =>
      intro i hi
      have e : rd_T72 x (i : Int) = mkP i := x2 i (by omega)
      refine Ev.up ?_
      simp only [laws_heldPieceS.l0, if_pos (show (i : Int) < (x.length : Int) by omega), if_pos (show (0 : Int) ≤ (i : Int) by omega), e]
      rw [wid (n := 1 + 4 * (i : Int) + 1) (by omega) (by omega), wid (n := 1 + 4 * (i : Int) + 1 + 1) (by omega) (by omega), wid (n := 1 + 4 * (i : Int) + 1 + 1 + 1) (by omega) (by omega), wid (n := 1 + 4 * (i : Int) + 1 + 1 + 1 + 1) (by omega) (by omega), wid (n := (i : Int) + 1) (by omega) (by omega)]
      unfold mkP
      simp only [if_true]
      rw [show 1 + 4 * (i : Int) + 1 + 1 + 1 + 1 = 1 + 4 * ((i + 1 : Nat) : Int) by omega]
      exact ih (i + 1) (by omega)
  refine ⟨x, ?_, fun a' b' c' => ?_⟩
  · unfold laws_markMeasure.f
    exact Ev.bind hx (Ev.now _)
  · unfold laws_heldMeasure.f
    refine Ev.bind (held x.length 0 (by omega)) ?_
    rw [x1]
    simp only [if_neg (show ¬ 1 + 4 * (l.length : Int) < 0 by omega)]
    exact Ev.now _

theorem FnExactCoarsenAt : laws_FnExactCoarsenAt.Pure := by
  intro p a b c l u0 v0 w0 _ _ _ _ hmax _ _ _ _
  refine Ev.rounds ?_
  unfold laws_FnExactCoarsenAt.f
  refine Ev.bindv (laws_szMeasure_eq a b c l hmax) ?_
  by_cases hbig : 1048576 - (l.length : Int) < 0
  · simp only [if_pos hbig, if_pos (show (-1 : Int) < 0 by decide)]; exact Ev.now _
  simp only [if_neg hbig]
  have hto := laws_toMeasure_ev a b c l (by omega)
  have hlen : (l.map convP).length = l.length := by simp
  obtain ⟨R, hrl, hi, hs⟩ := coarsen_both p a b c (l.map convP) u0 v0 w0 (by omega)
  obtain ⟨u, v, w, q, code⟩ := R
  have hq : q.length ≤ 64 := hrl
  have heq := laws_eqMeasure_ev u v w q (by omega)
  obtain ⟨x1, hx1⟩ := markMeasure_at a b c (l.map convP) (by omega) 1 (by omega) (by omega)
  obtain ⟨x3, hx3, hheld⟩ := markMeasure_held u v w q (by omega)
  refine Ev.bind hto (Ev.bindv (laws_toBall_eq u0 v0 w0) (Ev.bind hs (Ev.bind hto (Ev.bindv (laws_toBall_eq u0 v0 w0) (Ev.bind hi (Ev.bind heq ?_))))))
  simp only [if_true]
  refine Ev.bind hto (Ev.bind (laws_eqMeasure_ev _ _ _ _ (by omega)) ?_)
  simp only [if_true]
  refine Ev.bind hx1 ?_
  simp only [if_neg (show ¬ 1 + 4 * ((l.map convP).length : Int) < 0 by omega)]
  refine Ev.bind heq ?_
  simp only [if_true]
  refine Ev.bind hx3 (Ev.bind (hheld u v w) ?_)
  simp only [if_neg (show ¬ 1 + 4 * (q.length : Int) < 0 by omega), if_true]
  refine Ev.bind hto (Ev.bindv (laws_toBall_eq u0 v0 w0) (Ev.bind hi (Ev.bind heq ?_)))
  simp only [if_true]
  refine Ev.bind (hheld u v w) ?_
  simp only [if_neg (show ¬ 1 + 4 * (q.length : Int) < 0 by omega), if_true]
  exact Ev.now _

end Go.Proofs.Ytdfcoebadjhjlaa.Pure
