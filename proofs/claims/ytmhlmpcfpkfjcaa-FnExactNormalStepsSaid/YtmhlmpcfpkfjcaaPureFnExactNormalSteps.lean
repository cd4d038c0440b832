/- For every p and every word, NormalSteps of the program and of the reference return the same word and code; no condition beyond the row's. -/
import Derived.Test.YtmhlmpcfpkfjcaaPFnExactNormalStepsx0
import Derived.Test.YtmhlmpcfpkfjcaaPFnExactNormalStepsx1
import Derived.Test.YtmhlmpcfpkfjcaaPFnExactNormalStepsx2
import Derived.Test.YtmhlmpcfpkfjcaaPFnExactNormalStepsx3
namespace Go.Proofs.Ytmhlmpcfpkfjcaa.Pure
open Go.RowKit Go.Proofs.Ytmhlmpcfpkfjcaa.PFnExactNormalSteps Go.Proofs.YtmhlmpcfpkfjcaaW.PrintWords Go.Proofs.YtmhlmpcfpkfjcaaW.PrintLast
set_option linter.unusedVariables false
set_option linter.unusedSimpArgs false

-- block base
theorem wid {n : Int} (h0 : -9223372036854775808 ≤ n) (h1 : n ≤ 9223372036854775807) : wrap64 n = n := by unfold wrap64; omega
theorem wrap_lo (n : Int) : -9223372036854775808 ≤ wrap64 n := by unfold wrap64; omega
theorem wrap_hi (n : Int) : wrap64 n ≤ 9223372036854775807 := by unfold wrap64; omega
theorem wf_lo {a : Int} (h : (Lit.int .i64 a).wf = true) : -9223372036854775808 ≤ a := by
  simp only [Lit.wf, Bool.and_eq_true, decide_eq_true_eq] at h
  exact h.1
theorem wf_hi {a : Int} (h : (Lit.int .i64 a).wf = true) : a ≤ 9223372036854775807 := by
  simp only [Lit.wf, Bool.and_eq_true, decide_eq_true_eq] at h
  exact h.2
theorem Ev.val {α : Type} {o : Option α} {r : α} (h : o = some r) : Ev (fun _ => o) r := ⟨0, fun _ _ => h⟩
/-- What comes first is known for every number of rounds. -/
theorem Ev.bindv {α β : Type} {o : Option α} {f : Nat → α → Option β} {a : α} {r : β} (h : o = some a) (k : Ev (fun n => f n a) r) : Ev (fun n => o.bind (f n)) r := by
  subst h; exact k

-- block prime
def primeB (p : Int) : Bool := p == 2 || (p == 3 || (p == 5 || p == 7))
theorem prime_cases {p : Int} (h : primeB p = true) : p = 2 ∨ p = 3 ∨ p = 5 ∨ p = 7 := by
  simpa [primeB] using h
theorem prime_lo {p : Int} (h : primeB p = true) : 2 ≤ p := by rcases prime_cases h with h | h | h | h <;> omega
theorem prime_hi {p : Int} (h : primeB p = true) : p ≤ 7 := by rcases prime_cases h with h | h | h | h <;> omega

-- block loops
theorem rd_nat (l : List Int) (j : Nat) (h : j < l.length) : rd l (j : Int) = l[j] := by
  unfold rd; rw [Int.toNat_natCast, List.getD_eq_getElem?_getD, List.getElem?_eq_getElem h]; rfl
/-- A loop that stores element after element of one list into another of the same length ends in the list. -/
theorem copy_ev {α : Type} (g : Nat → List α → Int → Option (List α)) (src : List α) (get : Int → α)
    (hstep : ∀ k (dst : List α) (i : Nat), i < src.length → dst.length = src.length → g (k + 1) dst i = g k (dst.set i (get i)) ((i : Int) + 1))
    (hend : ∀ k (dst : List α) (i : Nat), src.length ≤ i → dst.length = src.length → g (k + 1) dst i = some dst)
    (hget : ∀ (i : Nat) (h : i < src.length), get i = src[i]) (dst : List α) (hd : dst.length = src.length) : Ev (fun k => g k dst 0) src := by
  have key : ∀ (n i : Nat) (dst : List α), i + n = src.length → dst.length = src.length → (∀ (j : Nat) (h : j < src.length), j < i → dst[j]? = some src[j]) → Ev (fun k => g k dst i) src := by
    intro n
    induction n with
    | zero =>
      intro i dst hi hl hp
      refine Ev.step (f := fun _ => some dst) (fun k => hend k dst i (by omega) hl) ?_
      have e : dst = src := by
        refine List.ext_getElem? fun j => ?_
        by_cases h : j < src.length
        · rw [hp j h (by omega), List.getElem?_eq_getElem h]
        · rw [List.getElem?_eq_none (by omega), List.getElem?_eq_none (by omega)]
      rw [e]; exact Ev.now _
    | succ n ih =>
      intro i dst hi hl hp
      refine Ev.step (f := fun k => g k (dst.set i (get i)) ((i + 1 : Nat) : Int)) (fun k => ?_) (ih (i + 1) _ (by omega) (by rw [List.length_set]; exact hl) ?_)
      · rw [hstep k dst i (by omega) hl]; rfl
      · intro j h hj
        by_cases e : j = i
        · subst e
          rw [List.getElem?_set_self (by omega), hget j h]
        · rw [List.getElem?_set_ne (by omega)]; exact hp j h (by omega)
  exact key src.length 0 dst (by omega) hd (fun j h hj => by omega)
/-- A loop over places that goes on as long as a test says yes, and answers no at the first no. -/
theorem all_ev {β : Type} (g : Nat → Int → Option β) (n : Nat) (p : Nat → Bool) (yes no : β)
    (hstep : ∀ (i : Nat), i < n → p i = true → Ev (fun k => g k ((i : Int) + 1)) yes → Ev (fun k => g k i) yes)
    (hstepno : ∀ (i : Nat), i < n → p i = true → Ev (fun k => g k ((i : Int) + 1)) no → Ev (fun k => g k i) no)
    (hno : ∀ (i : Nat), i < n → p i = false → Ev (fun k => g k i) no)
    (hend : Ev (fun k => g k n) yes) : Ev (fun k => g k 0) (if (List.range n).all p then yes else no) := by
  have key : ∀ (d i : Nat), i + d = n → Ev (fun k => g k i) (if (List.range' i d).all p then yes else no) := by
    intro d
    induction d with
    | zero => intro i hi; have : i = n := by omega
              subst this; simpa using hend
    | succ d ih =>
      intro i hi
      have h := ih (i + 1) (by omega)
      rw [List.range'_succ, List.all_cons]
      cases e : p i with
      | false => simpa using hno i (by omega) e
      | true =>
        rw [Bool.true_and]
        have e1 : (((i + 1 : Nat) : Int)) = (i : Int) + 1 := by omega
        rw [e1] at h
        cases e2 : (List.range' (i + 1) d).all p with
        | true => rw [e2] at h; exact hstep i (by omega) e h
        | false => rw [e2] at h; exact hstepno i (by omega) e h
  have := key n 0 (by omega)
  rw [← List.range_eq_range'] at this
  exact this
theorem all_range_rd (l : List Int) (q : Int → Bool) : (List.range l.length).all (fun i => q (rd l (i : Int))) = l.all q := by
  rw [Bool.eq_iff_iff]
  simp only [List.all_eq_true, List.mem_range]
  constructor
  · intro h x hx
    obtain ⟨i, hi, rfl⟩ := List.mem_iff_getElem.1 hx
    have := h i hi
    rwa [rd_nat l i hi] at this
  · intro h i hi
    rw [rd_nat l i hi]
    exact h _ (List.getElem_mem hi)
theorem all_range_getD {α : Type} (l : List α) (d : α) (q : α → Bool) : (List.range l.length).all (fun i => q (l.getD i d)) = l.all q := by
  rw [Bool.eq_iff_iff]
  simp only [List.all_eq_true, List.mem_range]
  constructor
  · intro h x hx
    obtain ⟨i, hi, rfl⟩ := List.mem_iff_getElem.1 hx
    have := h i hi
    rwa [List.getD_eq_getElem?_getD, List.getElem?_eq_getElem hi] at this
  · intro h i hi
    rw [List.getD_eq_getElem?_getD, List.getElem?_eq_getElem hi]
    exact h _ (List.getElem_mem hi)
/-- all_ev, with one form of the step for both answers. -/
theorem all_ev' {β : Type} (g : Nat → Int → Option β) (n : Nat) (p : Nat → Bool) (yes no : β)
    (hstep : ∀ (i : Nat) (r : β), i < n → p i = true → Ev (fun k => g k ((i : Int) + 1)) r → Ev (fun k => g k i) r)
    (hno : ∀ (i : Nat), i < n → p i = false → Ev (fun k => g k i) no)
    (hend : Ev (fun k => g k n) yes) : Ev (fun k => g k 0) (if (List.range n).all p then yes else no) :=
  all_ev g n p yes no (fun i hi hp h => hstep i yes hi hp h) (fun i hi hp h => hstep i no hi hp h) hno hend
theorem ite_tf (b : Bool) : (if b then true else false) = b := by cases b <;> rfl

-- block stepsB
theorem bt_lo (s : ByteArray) (i : Int) : 0 ≤ bt s i := by unfold bt; split <;> omega
theorem bt_hi (s : ByteArray) (i : Int) : bt s i ≤ 255 := by
  unfold bt; split
  · rename_i h; have := (s[i.toNat]'h).toNat_lt; omega
  · omega
def stepB (p c : Int) : Bool := c == 117 || decide (48 ≤ c ∧ c - 48 < p)
def stepsB (p : Int) (s : ByteArray) : Bool := decide (s.size ≤ 40) && (List.range s.size).all (fun i => stepB p (bt s i))

-- block In
theorem In_eq (a b c : Int) : spec_l01In.f a b c = some (decide (b ≤ a ∧ a ≤ c)) := by
  unfold spec_l01In.f
  by_cases h : a ≥ b
  · rw [if_pos h]; congr 1; exact decide_eq_decide.2 ⟨fun h2 => ⟨h, h2⟩, fun h2 => h2.2⟩
  · rw [if_neg h]; congr 1; exact (decide_eq_false (fun h2 => h h2.1)).symm

-- block spec_l10Is
theorem spec_l10Is_ev (p : Int) (s : ByteArray) (hp : primeB p = true) (hs : s.size ≤ 4611686018427387904) : Ev (fun k => spec_l10Is.f k p s) (stepsB p s) := by
  have h2 := prime_lo hp
  have h7 := prime_hi hp
  unfold spec_l10Is.f stepsB
  by_cases h40 : s.size ≤ 40
  · rw [decide_eq_true h40, Bool.true_and]
    simp only [if_neg (show ¬ (s.size : Int) > 40 by omega)]
    rw [← ite_tf ((List.range s.size).all _)]
    have body : ∀ (i : Nat) (k : Nat), i < s.size → bt s i ≠ 117 → spec_l10Is.l0 (k + 1) p s i = if decide (48 ≤ bt s i ∧ bt s i - 48 < p) = true then spec_l10Is.l0 k p s ((i : Int) + 1) else some false := by
      intro i k hi hc
      have := bt_lo s i
      have := bt_hi s i
      simp only [spec_l10Is.l0]
      rw [if_pos (by omega), if_pos (by omega), if_neg hc, wid (n := bt s i) (by omega) (by omega), wid (n := bt s i - 48) (by omega) (by omega), wid (n := p - 1) (by omega) (by omega), In_eq, wid (n := (i : Int) + 1) (by omega) (by omega)]
      simp only [Option.bind_some]
      rw [show decide (0 ≤ bt s i - 48 ∧ bt s i - 48 ≤ p - 1) = decide (48 ≤ bt s i ∧ bt s i - 48 < p) from decide_eq_decide.2 (by omega)]
    refine all_ev' (fun k i => spec_l10Is.l0 k p s i) s.size (fun i => stepB p (bt s i)) true false ?_ ?_ ?_
    · intro i r hi hb hr
      refine Ev.step (f := fun k => spec_l10Is.l0 k p s ((i : Int) + 1)) (fun k => ?_) hr
      by_cases hc : bt s i = 117
      · simp only [spec_l10Is.l0]
        rw [if_pos (by omega), if_pos (by omega), if_pos hc, wid (by omega) (by omega)]
      · rw [body i k hi hc]
        have : decide (48 ≤ bt s i ∧ bt s i - 48 < p) = true := by simpa [stepB, hc] using hb
        rw [this]; simp
    · intro i hi hb
      refine Ev.step (f := fun _ => some false) (fun k => ?_) (Ev.now _)
      have hc : bt s i ≠ 117 := by intro h; simp [stepB, h] at hb
      rw [body i k hi hc]
      have : decide (48 ≤ bt s i ∧ bt s i - 48 < p) = false := by
        unfold stepB at hb
        rw [beq_eq_false_iff_ne.2 hc, Bool.false_or] at hb
        exact hb
      rw [this]; simp
    · exact Ev.step (f := fun _ => some true) (fun k => by simp only [spec_l10Is.l0]; rw [if_neg (by omega)]) (Ev.now _)
  · rw [decide_eq_false h40, Bool.false_and]
    simp only [if_pos (show (s.size : Int) > 40 by omega)]
    exact Ev.now _

-- block impl_isSteps
theorem impl_isSteps_ev (p : Int) (s : ByteArray) (hp : primeB p = true) (hs : s.size ≤ 4611686018427387904) : Ev (fun k => impl_isSteps.f k p s) (stepsB p s) := by
  have h2 := prime_lo hp
  have h7 := prime_hi hp
  unfold impl_isSteps.f stepsB
  have body : ∀ (i : Nat) (k : Nat), i < s.size → bt s i ≠ 117 → impl_isSteps.l0 (k + 1) p s s.size i = if decide (48 ≤ bt s i ∧ bt s i - 48 < p) = true then impl_isSteps.l0 k p s s.size ((i : Int) + 1) else some false := by
    intro i k hi hc
    have := bt_lo s i
    have := bt_hi s i
    simp only [impl_isSteps.l0]
    rw [if_pos (by omega), if_pos (by omega), if_pos (by omega), if_neg hc, wid (n := (i : Int) + 1) (by omega) (by omega)]
    by_cases h1 : bt s i < 48
    · rw [if_pos h1, decide_eq_false (by omega)]; simp
    · rw [if_neg h1, show (bt s i - 48) % 256 = bt s i - 48 from by omega]
      by_cases h3 : bt s i - 48 ≥ p
      · rw [if_pos h3, decide_eq_false (by omega)]; simp
      · rw [if_neg h3, decide_eq_true (by omega)]; simp
  have := all_ev' (fun k i => impl_isSteps.l0 k p s s.size i) s.size (fun i => stepB p (bt s i)) (decide ((s.size : Int) ≤ 40)) false (by
    intro i r hi hb hr
    refine Ev.step (f := fun k => impl_isSteps.l0 k p s s.size ((i : Int) + 1)) (fun k => ?_) hr
    by_cases hc : bt s i = 117
    · simp only [impl_isSteps.l0]
      rw [if_pos (by omega), if_pos (by omega), if_pos (by omega), if_pos hc, wid (by omega) (by omega)]
    · rw [body i k hi hc]
      have : decide (48 ≤ bt s i ∧ bt s i - 48 < p) = true := by simpa [stepB, hc] using hb
      rw [this]; simp) (by
    intro i hi hb
    refine Ev.step (f := fun _ => some false) (fun k => ?_) (Ev.now _)
    have hc : bt s i ≠ 117 := by intro h; simp [stepB, h] at hb
    rw [body i k hi hc]
    have : decide (48 ≤ bt s i ∧ bt s i - 48 < p) = false := by
      unfold stepB at hb
      rw [beq_eq_false_iff_ne.2 hc, Bool.false_or] at hb
      exact hb
    rw [this]; simp) (Ev.step (f := fun _ => some (decide ((s.size : Int) ≤ 40))) (fun k => by simp only [impl_isSteps.l0]; rw [if_neg (by omega)]) (Ev.now _))
  rw [show (decide (s.size ≤ 40) && (List.range s.size).all (fun i => stepB p (bt s i))) = (if (List.range s.size).all (fun i => stepB p (bt s i)) = true then decide ((s.size : Int) ≤ 40) else false) from by
    cases (List.range s.size).all (fun i => stepB p (bt s i)) with
    | false => simp
    | true => simp only [if_true, Bool.and_true]; exact decide_eq_decide.2 (by omega)]
  exact this

-- block power
/-- What a power loop makes of an int64: n factors p, each product wrapped. -/
def powW (p : Int) : Nat → Int → Int
  | 0, acc => acc
  | n + 1, acc => powW p n (wrap64 (acc * p))

-- block powp
theorem ipow_pos {p : Int} (hp : 1 ≤ p) (n : Nat) : (1 : Int) ≤ p ^ n := by
  have := Int.pow_pos (n := p) (m := n) (by omega)
  omega
theorem ipow_mono {p : Int} (hp : 1 ≤ p) {m n : Nat} (h : m ≤ n) : p ^ m ≤ p ^ n := by
  obtain ⟨d, rfl⟩ : ∃ d, n = m + d := ⟨n - m, by omega⟩
  rw [Int.pow_add]
  have h1 := ipow_pos hp m
  have h2 := ipow_pos hp d
  have := Int.mul_le_mul_of_nonneg_left h2 (show 0 ≤ p ^ m by omega)
  rwa [Int.mul_one] at this
theorem powW_fit (p : Int) (hp : 1 ≤ p) (n : Nat) : ∀ (acc : Int), 0 ≤ acc → acc * p ^ n ≤ 9223372036854775807 → powW p n acc = acc * p ^ n := by
  induction n with
  | zero => intro acc _ _; simp [powW]
  | succ n ih =>
    intro acc h0 h
    have hpn : (1 : Int) ≤ p ^ n := ipow_pos hp n
    have e : acc * p ^ (n + 1) = acc * p * p ^ n := by rw [Int.pow_succ, Int.mul_comm (p ^ n) p, ← Int.mul_assoc]
    have h1 : 0 ≤ acc * p := Int.mul_nonneg h0 (by omega)
    have h2 : acc * p ≤ acc * p * p ^ n := by
      have := Int.mul_le_mul_of_nonneg_left hpn h1
      rwa [Int.mul_one] at this
    simp only [powW]
    rw [wid (by omega) (by omega), ih _ h1 (by omega), e]
theorem pow_le_top {p : Int} (h : primeB p = true) (n : Nat) (hn : n ≤ 22) : p ^ n ≤ 9223372036854775807 := by
  have hp := prime_lo h
  have h1 : p ^ n ≤ p ^ 22 := ipow_mono (by omega) hn
  have h2 : p ^ 22 ≤ 9223372036854775807 := by
    rcases prime_cases h with rfl | rfl | rfl | rfl <;> decide
  omega
theorem powW_prime {p : Int} (h : primeB p = true) (n : Nat) (hn : n ≤ 22) : powW p n 1 = p ^ n := by
  have hp := prime_lo h
  rw [powW_fit p (by omega) n 1 (by omega) (by rw [Int.one_mul]; exact pow_le_top h n hn), Int.one_mul]

-- block ball
/-- What both texts take for a ball: its three numbers. -/
def ballB (p L T D : Int) : Bool :=
  primeB p && (decide (-6 ≤ L ∧ L ≤ 6) && (decide (0 ≤ D ∧ D ≤ 6) && (if L + D ≤ 0 then T == 0 && D == 0 else decide (0 ≤ T ∧ T < p ^ (L + D).toNat) && (D == 0 || !(Int.tmod T p == 0)))))

-- block spec_l01Prime
theorem spec_l01Prime_eq (p : Int) : spec_l01Prime.f p = some (primeB p) := by
  unfold spec_l01Prime.f primeB
  by_cases h2 : p = 2
  · simp [h2]
  · by_cases h3 : p = 3
    · simp [h3]
    · by_cases h5 : p = 5
      · simp [h5]
      · rw [if_neg h2, if_neg h3, if_neg h5, beq_eq_false_iff_ne.2 h2, beq_eq_false_iff_ne.2 h3, beq_eq_false_iff_ne.2 h5]; rfl

-- block spec_l01Power
theorem spec_l01Power_l (p : Int) (n : Nat) : ∀ (x acc : Int), (n : Int) ≤ 9223372036854775807 → (x = n ∨ (n = 0 ∧ x ≤ 0)) → Ev (fun k => spec_l01Power.l0 k p x acc) (powW p n acc) := by
  induction n with
  | zero =>
    intro x acc _ hx
    exact Ev.step (f := fun _ => some acc) (fun k => by simp only [spec_l01Power.l0]; rw [if_neg (by omega)]) (Ev.now _)
  | succ n ih =>
    intro x acc hn hx
    have hx' : x = n + 1 := by omega
    exact Ev.step (f := fun k => spec_l01Power.l0 k p n (wrap64 (acc * p))) (fun k => by
      simp only [spec_l01Power.l0]; rw [if_pos (by omega), show wrap64 (x - 1) = (n : Int) from by rw [hx', wid (by omega) (by omega)]; omega]) (ih n _ (by omega) (.inl rfl))
theorem spec_l01Power_ev (p x : Int) (h : x ≤ 9223372036854775807) : Ev (fun k => spec_l01Power.f k p x) (powW p x.toNat 1) := by
  refine Ev.congr (f := fun k => spec_l01Power.l0 k p x 1) (fun k => rfl) (spec_l01Power_l p x.toNat x 1 (by omega) (by omega))

-- block spec_l01Is
theorem spec_l01Is_ev (p L T D : Int) : Ev (fun k => spec_l01Is.f k p L T D) (ballB p L T D) := by
  have hno : Ev (fun k => spec_l01Is.j0 k p true L T D) false := Ev.step (f := fun _ => some false) (fun k => by simp only [spec_l01Is.j0, if_true]) (Ev.now _)
  unfold spec_l01Is.f
  refine Ev.bindv (spec_l01Prime_eq p) ?_
  unfold ballB
  cases hp : primeB p with
  | false => simpa using hno
  | true =>
    have hp2 := prime_lo hp
    simp only [if_true, Bool.true_and]
    refine Ev.bindv (In_eq L (-6) 6) ?_
    by_cases hL : -6 ≤ L ∧ L ≤ 6
    · rw [decide_eq_true hL]; simp only [if_true, Bool.true_and]
      refine Ev.bindv (In_eq D 0 6) ?_
      by_cases hD : 0 ≤ D ∧ D ≤ 6
      · rw [decide_eq_true hD]; simp only [Bool.not_true, Bool.true_and]
        have hn := wid (n := L + D) (by omega) (by omega)
        by_cases h0 : L + D ≤ 0
        · rw [if_pos h0]
          refine Ev.step (f := fun _ => some (T == 0 && D == 0)) (fun k => ?_) (Ev.now _)
          simp only [spec_l01Is.j0]
          rw [if_neg (by decide), hn, if_pos h0]
          by_cases hT : T = 0
          · simp [hT]
          · simp [hT]
        · rw [if_neg h0]
          refine Ev.step (f := fun k => (spec_l01Power.f k p (L + D)).bind fun t => (spec_l01In.f T 0 (wrap64 (t - 1))).bind fun t2 => if t2 = true then (if D = 0 then some true else if p = 0 then none else some (Int.tmod T p != 0)) else some false) (fun k => by simp only [spec_l01Is.j0]; rw [if_neg (by decide), hn, if_neg h0]) ?_
          refine Ev.bind (spec_l01Power_ev p (L + D) (by omega)) ?_
          rw [powW_prime hp _ (by omega)]
          have hpp := ipow_pos (p := p) (by omega) (L + D).toNat
          have hpt := pow_le_top hp (L + D).toNat (by omega)
          rw [wid (n := p ^ (L + D).toNat - 1) (by omega) (by omega)]
          refine Ev.bindv (In_eq _ _ _) ?_
          rw [show decide (0 ≤ T ∧ T ≤ p ^ (L + D).toNat - 1) = decide (0 ≤ T ∧ T < p ^ (L + D).toNat) from decide_eq_decide.2 (by omega)]
          cases decide (0 ≤ T ∧ T < p ^ (L + D).toNat) with
          | false => simp only [Bool.false_eq_true, if_false, Bool.false_and]; exact Ev.now _
          | true =>
            simp only [if_true, Bool.true_and]
            by_cases hd : D = 0
            · simp only [hd, if_true]; simp; exact Ev.now _
            · rw [if_neg hd, if_neg (by omega), show (D == 0) = false from beq_eq_false_iff_ne.2 hd, Bool.false_or]
              exact Ev.now _
      · rw [decide_eq_false hD]; simpa using hno
    · rw [decide_eq_false hL]; simpa using hno

-- block spec_l01Code
def codeB (p : Int) (l : List S26) : Bool := primeB p && l.all (fun b => ballB p b.f0 b.f1 b.f2)
theorem spec_l01Code_ev (p : Int) (l : List S26) (hl : l.length ≤ 4611686018427387904) : Ev (fun k => spec_l01Code.f k p l) (if codeB p l then 0 else 1) := by
  unfold spec_l01Code.f codeB
  refine Ev.bindv (spec_l01Prime_eq p) ?_
  cases hp : primeB p with
  | false => simp; exact Ev.now _
  | true =>
    simp only [if_true, Bool.true_and]
    rw [← all_range_getD l z26]
    refine all_ev' (fun k i => spec_l01Code.l0 k p l i) l.length (fun i => ballB p (l.getD i z26).f0 (l.getD i z26).f1 (l.getD i z26).f2) 0 1 ?_ ?_ ?_
    · intro i r hi hb hr
      refine Ev.step (f := fun k => (spec_l01Is.f k p (l.getD i z26).f0 (l.getD i z26).f1 (l.getD i z26).f2).bind fun t => if t = true then spec_l01Code.l0 k p l ((i : Int) + 1) else some 1) (fun k => ?_) ?_
      · simp only [spec_l01Code.l0]
        rw [if_pos (by omega), if_pos (by omega), wid (by omega) (by omega)]; rfl
      · refine Ev.bind (spec_l01Is_ev _ _ _ _) ?_
        rw [hb]; simpa using hr
    · intro i hi hb
      refine Ev.step (f := fun k => (spec_l01Is.f k p (l.getD i z26).f0 (l.getD i z26).f1 (l.getD i z26).f2).bind fun t => if t = true then spec_l01Code.l0 k p l ((i : Int) + 1) else some 1) (fun k => ?_) ?_
      · simp only [spec_l01Code.l0]
        rw [if_pos (by omega), if_pos (by omega), wid (by omega) (by omega)]; rfl
      · refine Ev.bind (spec_l01Is_ev _ _ _ _) ?_
        rw [hb]; simp; exact Ev.now _
    · exact Ev.step (f := fun _ => some 0) (fun k => by simp only [spec_l01Code.l0]; rw [if_neg (by omega)]) (Ev.now _)

-- block impl_isPrime
theorem impl_isPrime_eq (p : Int) : impl_isPrime.f p = some (primeB p) := by
  unfold impl_isPrime.f primeB
  by_cases h2 : p = 2
  · simp [h2]
  · by_cases h3 : p = 3
    · simp [h3]
    · by_cases h5 : p = 5
      · simp [h5]
      · rw [if_neg h2, if_neg h3, if_neg h5, beq_eq_false_iff_ne.2 h2, beq_eq_false_iff_ne.2 h3, beq_eq_false_iff_ne.2 h5]; rfl

-- block impl_power
theorem impl_power_l (p N : Int) (hN : N ≤ 9223372036854775807) (n : Nat) : ∀ (acc i : Int), 0 ≤ i → (i + n = N ∨ (n = 0 ∧ N ≤ i)) → Ev (fun k => impl_power.l0 k p acc N i) (powW p n acc) := by
  induction n with
  | zero =>
    intro acc i hi hx
    exact Ev.step (f := fun _ => some acc) (fun k => by simp only [impl_power.l0]; rw [if_neg (by omega)]) (Ev.now _)
  | succ n ih =>
    intro acc i hi hx
    exact Ev.step (f := fun k => impl_power.l0 k p (wrap64 (acc * p)) N (i + 1)) (fun k => by
      simp only [impl_power.l0]; rw [if_pos (by omega), show wrap64 (i + 1) = i + 1 from wid (by omega) (by omega)]) (ih _ (i + 1) (by omega) (by omega))
theorem impl_power_ev (p x : Int) (h : x ≤ 9223372036854775807) : Ev (fun k => impl_power.f k p x) (powW p x.toNat 1) := by
  refine Ev.congr (f := fun k => impl_power.l0 k p 1 x 0) (fun k => rfl) (impl_power_l p x h x.toNat 1 0 (by omega) (by omega))

-- block impl_IsBall
theorem impl_isLevel_eq (L : Int) : impl_isLevel.f L = some (decide (-6 ≤ L ∧ L ≤ 6)) := by
  unfold impl_isLevel.f
  by_cases h : L ≥ -6
  · rw [if_pos h]; congr 1; exact decide_eq_decide.2 ⟨fun h2 => ⟨h, h2⟩, fun h2 => h2.2⟩
  · rw [if_neg h]; congr 1; exact (decide_eq_false (fun h2 => h h2.1)).symm
theorem impl_IsBall_ev (p L T D : Int) : Ev (fun k => impl_IsBall.f k p L T D) (ballB p L T D) := by
  have hno : Ev (fun k => impl_IsBall.j0 k p true L T D) false := Ev.step (f := fun _ => some false) (fun k => by simp only [impl_IsBall.j0, if_true]) (Ev.now _)
  unfold impl_IsBall.f
  refine Ev.bindv (impl_isPrime_eq p) ?_
  unfold ballB
  cases hp : primeB p with
  | false => simpa using hno
  | true =>
    have hp2 := prime_lo hp
    simp only [if_true, Bool.true_and]
    refine Ev.bindv (impl_isLevel_eq L) ?_
    by_cases hL : -6 ≤ L ∧ L ≤ 6
    · rw [decide_eq_true hL]; simp only [if_true, Bool.true_and]
      by_cases hD0 : D < 0
      · rw [decide_eq_false (show ¬ (0 ≤ D ∧ D ≤ 6) by omega)]; simp only [if_pos hD0, Bool.false_and]; exact hno
      simp only [if_neg hD0]
      by_cases hD : 0 ≤ D ∧ D ≤ 6
      · rw [decide_eq_true hD, decide_eq_false (show ¬ D > 6 by omega)]; simp only [Bool.true_and]
        have hn := wid (n := L + D) (by omega) (by omega)
        by_cases h0 : L + D ≤ 0
        · rw [if_pos h0]
          refine Ev.step (f := fun _ => some (T == 0 && D == 0)) (fun k => ?_) (Ev.now _)
          simp only [impl_IsBall.j0]
          rw [if_neg (by decide), hn, if_pos h0]
          by_cases hT : T = 0
          · simp [hT]
          · simp [hT]
        · rw [if_neg h0]
          by_cases hT0 : T ≥ 0
          · refine Ev.step (f := fun k => (impl_power.f k p (L + D)).bind fun t => if T < t then (if D = 0 then some true else if p = 0 then none else some (Int.tmod T p != 0)) else some false) (fun k => by simp only [impl_IsBall.j0]; rw [if_neg (by decide), hn, if_neg h0, if_pos hT0]) ?_
            refine Ev.bind (impl_power_ev p (L + D) (by omega)) ?_
            rw [powW_prime hp _ (by omega)]
            by_cases hT1 : T < p ^ (L + D).toNat
            · rw [if_pos hT1, decide_eq_true (show 0 ≤ T ∧ T < p ^ (L + D).toNat from ⟨hT0, hT1⟩), Bool.true_and]
              by_cases hd : D = 0
              · simp only [hd, if_true]; simp; exact Ev.now _
              · rw [if_neg hd, if_neg (by omega), show (D == 0) = false from beq_eq_false_iff_ne.2 hd, Bool.false_or]
                exact Ev.now _
            · rw [if_neg hT1, decide_eq_false (show ¬ (0 ≤ T ∧ T < p ^ (L + D).toNat) from fun h => hT1 h.2), Bool.false_and]
              exact Ev.now _
          · rw [decide_eq_false (show ¬ (0 ≤ T ∧ T < p ^ (L + D).toNat) from fun h => hT0 h.1), Bool.false_and]
            refine Ev.step (f := fun _ => some false) (fun k => ?_) (Ev.now _)
            simp only [impl_IsBall.j0]
            rw [if_neg (by decide), hn, if_neg h0, if_neg hT0]
      · rw [decide_eq_false hD, decide_eq_true (show D > 6 by omega)]; simpa using hno
    · rw [decide_eq_false hL]; simpa using hno

-- block stepsCode
theorem ballB_prime {p L T D : Int} (h : ballB p L T D = true) : primeB p = true := by
  unfold ballB at h; rw [Bool.and_eq_true] at h; exact h.1
/-- The code of a ball and a word. -/
def stepsCodeW (p L T D : Int) (s : ByteArray) : Int := if ballB p L T D then (if stepsB p s then 0 else 6) else 1
theorem spec_l10Code_ev (p : Int) (s : ByteArray) (l : List S26) (hs : s.size ≤ 4611686018427387904) (hl : l.length ≤ 4611686018427387904) : Ev (fun k => spec_l10Code.f k p s l) (if codeB p l then (if stepsB p s then 0 else 6) else 1) := by
  unfold spec_l10Code.f
  refine Ev.bind (spec_l01Code_ev p l hl) ?_
  cases hc : codeB p l with
  | false => simp; exact Ev.now _
  | true =>
    have hp : primeB p = true := by unfold codeB at hc; rw [Bool.and_eq_true] at hc; exact hc.1
    simp only [if_true]
    refine Ev.bind (spec_l10Is_ev p s hp hs) ?_
    cases stepsB p s <;> (simp; exact Ev.now _)
theorem impl_stepsCode_ev (p L T D : Int) (s : ByteArray) (hs : s.size ≤ 4611686018427387904) : Ev (fun k => impl_stepsCode.f k p L T D s) (stepsCodeW p L T D s) := by
  unfold impl_stepsCode.f stepsCodeW
  refine Ev.bind (impl_IsBall_ev p L T D) ?_
  cases hb : ballB p L T D with
  | false => simp; exact Ev.now _
  | true =>
    simp only [if_true]
    refine Ev.bind (impl_isSteps_ev p s (ballB_prime hb) hs) ?_
    cases stepsB p s <;> (simp; exact Ev.now _)

theorem normal_same (s : ByteArray) : ∀ (k : Nat) (xs : List Int) (i : Int), spec_NormalSteps.l0 k s xs i = impl_NormalSteps.l0 k s xs s.size i := by
  intro k
  induction k with
  | zero => intro xs i; rfl
  | succ k ih =>
    intro xs i
    simp only [spec_NormalSteps.l0, impl_NormalSteps.l0, ih]
    by_cases h : i < (s.size : Int)
    · simp only [if_pos h]
    · simp only [if_neg h]
theorem normal_l (s : ByteArray) (hs : s.size ≤ 1048576) (d : Nat) : ∀ (xs : List Int) (i : Int), 0 ≤ i → (xs.length : Int) ≤ i → (s.size : Int) - i ≤ d → i ≤ s.size → ∃ r, Ev (fun k => spec_NormalSteps.l0 k s xs i) r := by
  induction d with
  | zero =>
    intro xs i h0 hl hd hi
    exact ⟨_, Ev.step (f := fun _ => some (strOfNums xs, 0)) (fun k => by simp only [spec_NormalSteps.l0]; rw [if_neg (by omega)]) (Ev.now _)⟩
  | succ d ih =>
    intro xs i h0 hl hd hi
    by_cases h : i < (s.size : Int)
    · have hw : wrap64 (i + 1) = i + 1 := wid (by omega) (by omega)
      have app : ∃ r, Ev (fun k => spec_NormalSteps.l0 k s (xs ++ [bt s i]) (i + 1)) r := ih _ (i + 1) (by omega) (by simp; omega) (by omega) (by omega)
      obtain ⟨r, hr⟩ := app
      by_cases hc : bt s i = 117
      · by_cases hn : (xs.length : Int) > 0
        · have hm : wrap64 ((xs.length : Int) - 1) = (xs.length : Int) - 1 := wid (by omega) (by omega)
          by_cases hu : rd xs ((xs.length : Int) - 1) = 117
          · refine ⟨r, Ev.step (f := fun k => spec_NormalSteps.l0 k s (xs ++ [bt s i]) (i + 1)) (fun k => ?_) hr⟩
            simp only [spec_NormalSteps.l0]
            rw [if_pos h, if_pos h0, if_pos hc, if_pos hn, hm, if_pos (by omega), if_pos (by omega), if_pos hu, if_pos (by omega), hw]
          · obtain ⟨r2, hr2⟩ := ih (xs.take ((xs.length : Int) - 1).toNat) (i + 1) (by omega) (by rw [List.length_take]; omega) (by omega) (by omega)
            refine ⟨r2, Ev.step (f := fun k => spec_NormalSteps.l0 k s (xs.take ((xs.length : Int) - 1).toNat) (i + 1)) (fun k => ?_) hr2⟩
            simp only [spec_NormalSteps.l0]
            rw [if_pos h, if_pos h0, if_pos hc, if_pos hn, hm, if_pos (by omega), if_pos (by omega), if_neg hu, if_pos (by omega), hw]
        · refine ⟨r, Ev.step (f := fun k => spec_NormalSteps.l0 k s (xs ++ [bt s i]) (i + 1)) (fun k => ?_) hr⟩
          simp only [spec_NormalSteps.l0]
          rw [if_pos h, if_pos h0, if_pos hc, if_neg hn, if_pos (by omega), hw]
      · refine ⟨r, Ev.step (f := fun k => spec_NormalSteps.l0 k s (xs ++ [bt s i]) (i + 1)) (fun k => ?_) hr⟩
        simp only [spec_NormalSteps.l0]
        rw [if_pos h, if_pos h0, if_neg hc, if_pos (by omega), hw]
    · exact ⟨_, Ev.step (f := fun _ => some (strOfNums xs, 0)) (fun k => by simp only [spec_NormalSteps.l0]; rw [if_neg h]) (Ev.now _)⟩
theorem FnExactNormalSteps : laws_FnExactNormalSteps.Pure := by
  intro p s _ _
  refine Ev.rounds ?_
  unfold laws_FnExactNormalSteps.f
  by_cases hbig : (s.size : Int) > 1048576
  · simp only [if_pos hbig]; exact Ev.now _
  simp only [if_neg hbig]
  have hs : s.size ≤ 1048576 := by omega
  obtain ⟨r, hr⟩ := normal_l s hs s.size [] 0 (by omega) (by simp) (by omega) (by omega)
  have hcode : (if codeB p ([] : List S26) then (if stepsB p s then (0 : Int) else 6) else 1) = stepsCodeW p 0 0 0 s := by
    unfold stepsCodeW codeB
    rw [show ballB p 0 0 0 = primeB p from by simp [ballB]]
    simp
  have h1 : Ev (fun k => spec_NormalSteps.f k p s) (if stepsCodeW p 0 0 0 s = 0 then r else ((⟨#[]⟩ : ByteArray), stepsCodeW p 0 0 0 s)) := by
    unfold spec_NormalSteps.f
    refine Ev.bind (spec_l10Code_ev p s [] (by omega) (by simp)) ?_
    rw [hcode]
    by_cases h : stepsCodeW p 0 0 0 s = 0
    · simp only [if_pos h]; exact hr
    · simp only [if_neg h]; exact Ev.now _
  have h2 : Ev (fun k => impl_NormalSteps.f k p s) (if stepsCodeW p 0 0 0 s = 0 then r else ((⟨#[]⟩ : ByteArray), stepsCodeW p 0 0 0 s)) := by
    unfold impl_NormalSteps.f
    refine Ev.bind (impl_stepsCode_ev p 0 0 0 s (by omega)) ?_
    by_cases h : stepsCodeW p 0 0 0 s = 0
    · simp only [if_pos h]
      exact Ev.congr (fun k => (normal_same s k [] 0).symm) hr
    · simp only [if_neg h]; exact Ev.now _
  refine Ev.bind h1 (Ev.bind h2 ?_)
  simp only [if_true]
  exact Ev.now _

end Go.Proofs.Ytmhlmpcfpkfjcaa.Pure
