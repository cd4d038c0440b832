/- For every desk, IsDesk of the program and of the reference return the same answer; no condition beyond the row's. -/
import Derived.Test.YtmhlmpcfpkfjcaaQFnExactIsDeskx0
import Derived.Test.YtmhlmpcfpkfjcaaQFnExactIsDeskx1
import Derived.Test.YtmhlmpcfpkfjcaaQFnExactIsDeskx2
import Derived.Test.YtmhlmpcfpkfjcaaQFnExactIsDeskx3
import Derived.Test.YtmhlmpcfpkfjcaaQFnExactIsDeskx4
namespace Go.Proofs.Ytmhlmpcfpkfjcaa.Pure
open Go.RowKit Go.Proofs.Ytmhlmpcfpkfjcaa.QFnExactIsDesk Go.Proofs.YtmhlmpcfpkfjcaaW.PrintWords Go.Proofs.YtmhlmpcfpkfjcaaW.PrintLast
set_option linter.unusedVariables false
set_option linter.unusedSimpArgs false

-- block base
theorem wid {n : Int} (h0 : -9223372036854775808 ≤ n) (h1 : n ≤ 9223372036854775807) : wrap64 n = n := by unfold wrap64; omega
theorem wrap_lo (n : Int) : -9223372036854775808 ≤ wrap64 n := by unfold wrap64; omega
theorem wrap_hi (n : Int) : wrap64 n ≤ 9223372036854775807 := by unfold wrap64; omega
theorem wf_lo {a : Int} (h : (Lit.int .i64 a).wf = true) : -9223372036854775808 ≤ a := by
  simp only [Lit.wf, Bool.and_eq_true, decide_eq_true_eq] at h
  exact h.1
theorem wf_hi {a : Int} (h : (Lit.int .i64 a).wf = true) : a ≤ 9223372036854775807 := by
  simp only [Lit.wf, Bool.and_eq_true, decide_eq_true_eq] at h
  exact h.2
theorem Ev.val {α : Type} {o : Option α} {r : α} (h : o = some r) : Ev (fun _ => o) r := ⟨0, fun _ _ => h⟩
/-- What comes first is known for every number of rounds. -/
theorem Ev.bindv {α β : Type} {o : Option α} {f : Nat → α → Option β} {a : α} {r : β} (h : o = some a) (k : Ev (fun n => f n a) r) : Ev (fun n => o.bind (f n)) r := by
  subst h; exact k

-- block power
/-- What a power loop makes of an int64: n factors p, each product wrapped. -/
def powW (p : Int) : Nat → Int → Int
  | 0, acc => acc
  | n + 1, acc => powW p n (wrap64 (acc * p))

-- block prime
def primeB (p : Int) : Bool := p == 2 || (p == 3 || (p == 5 || p == 7))
theorem prime_cases {p : Int} (h : primeB p = true) : p = 2 ∨ p = 3 ∨ p = 5 ∨ p = 7 := by
  simpa [primeB] using h
theorem prime_lo {p : Int} (h : primeB p = true) : 2 ≤ p := by rcases prime_cases h with h | h | h | h <;> omega
theorem prime_hi {p : Int} (h : primeB p = true) : p ≤ 7 := by rcases prime_cases h with h | h | h | h <;> omega

-- block powp
theorem ipow_pos {p : Int} (hp : 1 ≤ p) (n : Nat) : (1 : Int) ≤ p ^ n := by
  have := Int.pow_pos (n := p) (m := n) (by omega)
  omega
theorem ipow_mono {p : Int} (hp : 1 ≤ p) {m n : Nat} (h : m ≤ n) : p ^ m ≤ p ^ n := by
  obtain ⟨d, rfl⟩ : ∃ d, n = m + d := ⟨n - m, by omega⟩
  rw [Int.pow_add]
  have h1 := ipow_pos hp m
  have h2 := ipow_pos hp d
  have := Int.mul_le_mul_of_nonneg_left h2 (show 0 ≤ p ^ m by omega)
  rwa [Int.mul_one] at this
theorem powW_fit (p : Int) (hp : 1 ≤ p) (n : Nat) : ∀ (acc : Int), 0 ≤ acc → acc * p ^ n ≤ 9223372036854775807 → powW p n acc = acc * p ^ n := by
  induction n with
  | zero => intro acc _ _; simp [powW]
  | succ n ih =>
    intro acc h0 h
    have hpn : (1 : Int) ≤ p ^ n := ipow_pos hp n
    have e : acc * p ^ (n + 1) = acc * p * p ^ n := by rw [Int.pow_succ, Int.mul_comm (p ^ n) p, ← Int.mul_assoc]
    have h1 : 0 ≤ acc * p := Int.mul_nonneg h0 (by omega)
    have h2 : acc * p ≤ acc * p * p ^ n := by
      have := Int.mul_le_mul_of_nonneg_left hpn h1
      rwa [Int.mul_one] at this
    simp only [powW]
    rw [wid (by omega) (by omega), ih _ h1 (by omega), e]
theorem pow_le_top {p : Int} (h : primeB p = true) (n : Nat) (hn : n ≤ 22) : p ^ n ≤ 9223372036854775807 := by
  have hp := prime_lo h
  have h1 : p ^ n ≤ p ^ 22 := ipow_mono (by omega) hn
  have h2 : p ^ 22 ≤ 9223372036854775807 := by
    rcases prime_cases h with rfl | rfl | rfl | rfl <;> decide
  omega
theorem powW_prime {p : Int} (h : primeB p = true) (n : Nat) (hn : n ≤ 22) : powW p n 1 = p ^ n := by
  have hp := prime_lo h
  rw [powW_fit p (by omega) n 1 (by omega) (by rw [Int.one_mul]; exact pow_le_top h n hn), Int.one_mul]

-- block ball
/-- What both texts take for a ball: its three numbers. -/
def ballB (p L T D : Int) : Bool :=
  primeB p && (decide (-6 ≤ L ∧ L ≤ 6) && (decide (0 ≤ D ∧ D ≤ 6) && (if L + D ≤ 0 then T == 0 && D == 0 else decide (0 ≤ T ∧ T < p ^ (L + D).toNat) && (D == 0 || !(Int.tmod T p == 0)))))

-- block spec_l01Prime
theorem spec_l01Prime_eq (p : Int) : spec_l01Prime.f p = some (primeB p) := by
  unfold spec_l01Prime.f primeB
  by_cases h2 : p = 2
  · simp [h2]
  · by_cases h3 : p = 3
    · simp [h3]
    · by_cases h5 : p = 5
      · simp [h5]
      · rw [if_neg h2, if_neg h3, if_neg h5, beq_eq_false_iff_ne.2 h2, beq_eq_false_iff_ne.2 h3, beq_eq_false_iff_ne.2 h5]; rfl

-- block In
theorem In_eq (a b c : Int) : spec_l01In.f a b c = some (decide (b ≤ a ∧ a ≤ c)) := by
  unfold spec_l01In.f
  by_cases h : a ≥ b
  · rw [if_pos h]; congr 1; exact decide_eq_decide.2 ⟨fun h2 => ⟨h, h2⟩, fun h2 => h2.2⟩
  · rw [if_neg h]; congr 1; exact (decide_eq_false (fun h2 => h h2.1)).symm

-- block spec_l01Power
theorem spec_l01Power_l (p : Int) (n : Nat) : ∀ (x acc : Int), (n : Int) ≤ 9223372036854775807 → (x = n ∨ (n = 0 ∧ x ≤ 0)) → Ev (fun k => spec_l01Power.l0 k p x acc) (powW p n acc) := by
  induction n with
  | zero =>
    intro x acc _ hx
    exact Ev.step (f := fun _ => some acc) (fun k => by simp only [spec_l01Power.l0]; rw [if_neg (by omega)]) (Ev.now _)
  | succ n ih =>
    intro x acc hn hx
    have hx' : x = n + 1 := by omega
    exact Ev.step (f := fun k => spec_l01Power.l0 k p n (wrap64 (acc * p))) (fun k => by
      simp only [spec_l01Power.l0]; rw [if_pos (by omega), show wrap64 (x - 1) = (n : Int) from by rw [hx', wid (by omega) (by omega)]; omega]) (ih n _ (by omega) (.inl rfl))
theorem spec_l01Power_ev (p x : Int) (h : x ≤ 9223372036854775807) : Ev (fun k => spec_l01Power.f k p x) (powW p x.toNat 1) := by
  refine Ev.congr (f := fun k => spec_l01Power.l0 k p x 1) (fun k => rfl) (spec_l01Power_l p x.toNat x 1 (by omega) (by omega))

-- block spec_l01Is
theorem spec_l01Is_ev (p L T D : Int) : Ev (fun k => spec_l01Is.f k p L T D) (ballB p L T D) := by
  have hno : Ev (fun k => spec_l01Is.j0 k p true L T D) false := Ev.step (f := fun _ => some false) (fun k => by simp only [spec_l01Is.j0, if_true]) (Ev.now _)
  unfold spec_l01Is.f
  refine Ev.bindv (spec_l01Prime_eq p) ?_
  unfold ballB
  cases hp : primeB p with
  | false => simpa using hno
  | true =>
    have hp2 := prime_lo hp
    simp only [if_true, Bool.true_and]
    refine Ev.bindv (In_eq L (-6) 6) ?_
    by_cases hL : -6 ≤ L ∧ L ≤ 6
    · rw [decide_eq_true hL]; simp only [if_true, Bool.true_and]
      refine Ev.bindv (In_eq D 0 6) ?_
      by_cases hD : 0 ≤ D ∧ D ≤ 6
      · rw [decide_eq_true hD]; simp only [Bool.not_true, Bool.true_and]
        have hn := wid (n := L + D) (by omega) (by omega)
        by_cases h0 : L + D ≤ 0
        · rw [if_pos h0]
          refine Ev.step (f := fun _ => some (T == 0 && D == 0)) (fun k => ?_) (Ev.now _)
          simp only [spec_l01Is.j0]
          rw [if_neg (by decide), hn, if_pos h0]
          by_cases hT : T = 0
          · simp [hT]
          · simp [hT]
        · rw [if_neg h0]
          refine Ev.step (f := fun k => (spec_l01Power.f k p (L + D)).bind fun t => (spec_l01In.f T 0 (wrap64 (t - 1))).bind fun t2 => if t2 = true then (if D = 0 then some true else if p = 0 then none else some (Int.tmod T p != 0)) else some false) (fun k => by simp only [spec_l01Is.j0]; rw [if_neg (by decide), hn, if_neg h0]) ?_
          refine Ev.bind (spec_l01Power_ev p (L + D) (by omega)) ?_
          rw [powW_prime hp _ (by omega)]
          have hpp := ipow_pos (p := p) (by omega) (L + D).toNat
          have hpt := pow_le_top hp (L + D).toNat (by omega)
          rw [wid (n := p ^ (L + D).toNat - 1) (by omega) (by omega)]
          refine Ev.bindv (In_eq _ _ _) ?_
          rw [show decide (0 ≤ T ∧ T ≤ p ^ (L + D).toNat - 1) = decide (0 ≤ T ∧ T < p ^ (L + D).toNat) from decide_eq_decide.2 (by omega)]
          cases decide (0 ≤ T ∧ T < p ^ (L + D).toNat) with
          | false => simp only [Bool.false_eq_true, if_false, Bool.false_and]; exact Ev.now _
          | true =>
            simp only [if_true, Bool.true_and]
            by_cases hd : D = 0
            · simp only [hd, if_true]; simp; exact Ev.now _
            · rw [if_neg hd, if_neg (by omega), show (D == 0) = false from beq_eq_false_iff_ne.2 hd, Bool.false_or]
              exact Ev.now _
      · rw [decide_eq_false hD]; simpa using hno
    · rw [decide_eq_false hL]; simpa using hno

-- block loops
theorem rd_nat (l : List Int) (j : Nat) (h : j < l.length) : rd l (j : Int) = l[j] := by
  unfold rd; rw [Int.toNat_natCast, List.getD_eq_getElem?_getD, List.getElem?_eq_getElem h]; rfl
/-- A loop that stores element after element of one list into another of the same length ends in the list. -/
theorem copy_ev {α : Type} (g : Nat → List α → Int → Option (List α)) (src : List α) (get : Int → α)
    (hstep : ∀ k (dst : List α) (i : Nat), i < src.length → dst.length = src.length → g (k + 1) dst i = g k (dst.set i (get i)) ((i : Int) + 1))
    (hend : ∀ k (dst : List α) (i : Nat), src.length ≤ i → dst.length = src.length → g (k + 1) dst i = some dst)
    (hget : ∀ (i : Nat) (h : i < src.length), get i = src[i]) (dst : List α) (hd : dst.length = src.length) : Ev (fun k => g k dst 0) src := by
  have key : ∀ (n i : Nat) (dst : List α), i + n = src.length → dst.length = src.length → (∀ (j : Nat) (h : j < src.length), j < i → dst[j]? = some src[j]) → Ev (fun k => g k dst i) src := by
    intro n
    induction n with
    | zero =>
      intro i dst hi hl hp
      refine Ev.step (f := fun _ => some dst) (fun k => hend k dst i (by omega) hl) ?_
      have e : dst = src := by
        refine List.ext_getElem? fun j => ?_
        by_cases h : j < src.length
        · rw [hp j h (by omega), List.getElem?_eq_getElem h]
        · rw [List.getElem?_eq_none (by omega), List.getElem?_eq_none (by omega)]
      rw [e]; exact Ev.now _
    | succ n ih =>
      intro i dst hi hl hp
      refine Ev.step (f := fun k => g k (dst.set i (get i)) ((i + 1 : Nat) : Int)) (fun k => ?_) (ih (i + 1) _ (by omega) (by rw [List.length_set]; exact hl) ?_)
      · rw [hstep k dst i (by omega) hl]; rfl
      · intro j h hj
        by_cases e : j = i
        · subst e
          rw [List.getElem?_set_self (by omega), hget j h]
        · rw [List.getElem?_set_ne (by omega)]; exact hp j h (by omega)
  exact key src.length 0 dst (by omega) hd (fun j h hj => by omega)
/-- A loop over places that goes on as long as a test says yes, and answers no at the first no. -/
theorem all_ev {β : Type} (g : Nat → Int → Option β) (n : Nat) (p : Nat → Bool) (yes no : β)
    (hstep : ∀ (i : Nat), i < n → p i = true → Ev (fun k => g k ((i : Int) + 1)) yes → Ev (fun k => g k i) yes)
    (hstepno : ∀ (i : Nat), i < n → p i = true → Ev (fun k => g k ((i : Int) + 1)) no → Ev (fun k => g k i) no)
    (hno : ∀ (i : Nat), i < n → p i = false → Ev (fun k => g k i) no)
    (hend : Ev (fun k => g k n) yes) : Ev (fun k => g k 0) (if (List.range n).all p then yes else no) := by
  have key : ∀ (d i : Nat), i + d = n → Ev (fun k => g k i) (if (List.range' i d).all p then yes else no) := by
    intro d
    induction d with
    | zero => intro i hi; have : i = n := by omega
              subst this; simpa using hend
    | succ d ih =>
      intro i hi
      have h := ih (i + 1) (by omega)
      rw [List.range'_succ, List.all_cons]
      cases e : p i with
      | false => simpa using hno i (by omega) e
      | true =>
        rw [Bool.true_and]
        have e1 : (((i + 1 : Nat) : Int)) = (i : Int) + 1 := by omega
        rw [e1] at h
        cases e2 : (List.range' (i + 1) d).all p with
        | true => rw [e2] at h; exact hstep i (by omega) e h
        | false => rw [e2] at h; exact hstepno i (by omega) e h
  have := key n 0 (by omega)
  rw [← List.range_eq_range'] at this
  exact this
theorem all_range_rd (l : List Int) (q : Int → Bool) : (List.range l.length).all (fun i => q (rd l (i : Int))) = l.all q := by
  rw [Bool.eq_iff_iff]
  simp only [List.all_eq_true, List.mem_range]
  constructor
  · intro h x hx
    obtain ⟨i, hi, rfl⟩ := List.mem_iff_getElem.1 hx
    have := h i hi
    rwa [rd_nat l i hi] at this
  · intro h i hi
    rw [rd_nat l i hi]
    exact h _ (List.getElem_mem hi)
theorem all_range_getD {α : Type} (l : List α) (d : α) (q : α → Bool) : (List.range l.length).all (fun i => q (l.getD i d)) = l.all q := by
  rw [Bool.eq_iff_iff]
  simp only [List.all_eq_true, List.mem_range]
  constructor
  · intro h x hx
    obtain ⟨i, hi, rfl⟩ := List.mem_iff_getElem.1 hx
    have := h i hi
    rwa [List.getD_eq_getElem?_getD, List.getElem?_eq_getElem hi] at this
  · intro h i hi
    rw [List.getD_eq_getElem?_getD, List.getElem?_eq_getElem hi]
    exact h _ (List.getElem_mem hi)
/-- all_ev, with one form of the step for both answers. -/
theorem all_ev' {β : Type} (g : Nat → Int → Option β) (n : Nat) (p : Nat → Bool) (yes no : β)
    (hstep : ∀ (i : Nat) (r : β), i < n → p i = true → Ev (fun k => g k ((i : Int) + 1)) r → Ev (fun k => g k i) r)
    (hno : ∀ (i : Nat), i < n → p i = false → Ev (fun k => g k i) no)
    (hend : Ev (fun k => g k n) yes) : Ev (fun k => g k 0) (if (List.range n).all p then yes else no) :=
  all_ev g n p yes no (fun i hi hp h => hstep i yes hi hp h) (fun i hi hp h => hstep i no hi hp h) hno hend
theorem ite_tf (b : Bool) : (if b then true else false) = b := by cases b <;> rfl

-- block spec_l01Code
def codeB (p : Int) (l : List S26) : Bool := primeB p && l.all (fun b => ballB p b.f0 b.f1 b.f2)
theorem spec_l01Code_ev (p : Int) (l : List S26) (hl : l.length ≤ 4611686018427387904) : Ev (fun k => spec_l01Code.f k p l) (if codeB p l then 0 else 1) := by
  unfold spec_l01Code.f codeB
  refine Ev.bindv (spec_l01Prime_eq p) ?_
  cases hp : primeB p with
  | false => simp; exact Ev.now _
  | true =>
    simp only [if_true, Bool.true_and]
    rw [← all_range_getD l z26]
    refine all_ev' (fun k i => spec_l01Code.l0 k p l i) l.length (fun i => ballB p (l.getD i z26).f0 (l.getD i z26).f1 (l.getD i z26).f2) 0 1 ?_ ?_ ?_
    · intro i r hi hb hr
      refine Ev.step (f := fun k => (spec_l01Is.f k p (l.getD i z26).f0 (l.getD i z26).f1 (l.getD i z26).f2).bind fun t => if t = true then spec_l01Code.l0 k p l ((i : Int) + 1) else some 1) (fun k => ?_) ?_
      · simp only [spec_l01Code.l0]
        rw [if_pos (by omega), if_pos (by omega), wid (by omega) (by omega)]; rfl
      · refine Ev.bind (spec_l01Is_ev _ _ _ _) ?_
        rw [hb]; simpa using hr
    · intro i hi hb
      refine Ev.step (f := fun k => (spec_l01Is.f k p (l.getD i z26).f0 (l.getD i z26).f1 (l.getD i z26).f2).bind fun t => if t = true then spec_l01Code.l0 k p l ((i : Int) + 1) else some 1) (fun k => ?_) ?_
      · simp only [spec_l01Code.l0]
        rw [if_pos (by omega), if_pos (by omega), wid (by omega) (by omega)]; rfl
      · refine Ev.bind (spec_l01Is_ev _ _ _ _) ?_
        rw [hb]; simp; exact Ev.now _
    · exact Ev.step (f := fun _ => some 0) (fun k => by simp only [spec_l01Code.l0]; rw [if_neg (by omega)]) (Ev.now _)

-- block endB
/-- What both texts take for an end. -/
def endB (n d : Int) : Bool := if d = 0 then n == 1 else decide (1 ≤ d ∧ d ≤ 1000000) && (decide (-1000000 ≤ n ∧ n ≤ 1000000) && ((Int.gcd n d : Int) == 1))

-- block mxmn
theorem mx_abs (a : Int) (h : -9223372036854775807 ≤ a) (h2 : a ≤ 9223372036854775807) : mx a (wrap64 (-a)) = (a.natAbs : Int) := by
  rw [wid (by omega) (by omega)]; unfold mx; split <;> omega

-- block gcdlem
theorem gcd_step (a b : Int) (h : b ≠ 0) : Int.gcd b (Int.tmod a b) = Int.gcd a b := by
  unfold Int.gcd
  rw [Int.natAbs_tmod, Nat.gcd_comm a.natAbs b.natAbs]
  conv => rhs; rw [Nat.gcd_rec]
  rw [Nat.gcd_comm]

-- block spec_l01Gcd
theorem spec_l01Gcd_l (n : Nat) : ∀ (a b : Int), b.natAbs < n → -9223372036854775807 ≤ a → a ≤ 9223372036854775807 → -9223372036854775807 ≤ b → b ≤ 9223372036854775807 → Ev (fun k => spec_l01Gcd.l0 k a b) (Int.gcd a b : Int) := by
  induction n with
  | zero => intro a b h; omega
  | succ n ih =>
    intro a b hn ha1 ha2 hb1 hb2
    by_cases hb : b = 0
    · subst hb
      refine Ev.step (f := fun _ => some (mx a (wrap64 (-a)))) (fun k => by simp only [spec_l01Gcd.l0, if_true]) ?_
      rw [mx_abs a ha1 ha2, Int.gcd_zero_right]; exact Ev.now _
    · have hlt : (Int.tmod a b).natAbs < b.natAbs := by rw [Int.natAbs_tmod]; exact Nat.mod_lt _ (by omega)
      refine Ev.step (f := fun k => spec_l01Gcd.l0 k b (Int.tmod a b)) (fun k => by simp only [spec_l01Gcd.l0]; rw [if_neg hb]) ?_
      rw [← gcd_step a b hb]
      exact ih _ _ (by omega) hb1 hb2 (by omega) (by omega)
theorem spec_l01Gcd_ev (a b : Int) (ha1 : -9223372036854775807 ≤ a) (ha2 : a ≤ 9223372036854775807) (hb1 : -9223372036854775807 ≤ b) (hb2 : b ≤ 9223372036854775807) : Ev (fun k => spec_l01Gcd.f k a b) (Int.gcd a b : Int) := by
  unfold spec_l01Gcd.f
  exact spec_l01Gcd_l (b.natAbs + 1) a b (by omega) ha1 ha2 hb1 hb2

-- block spec_l01End
theorem spec_l01End_ev (n d : Int) : Ev (fun k => spec_l01End.f k n d) (endB n d) := by
  unfold spec_l01End.f endB
  by_cases h0 : d = 0
  · simp only [if_pos h0]; exact Ev.now _
  · simp only [if_neg h0]
    refine Ev.bindv (In_eq _ _ _) ?_
    by_cases h1 : 1 ≤ d ∧ d ≤ 1000000
    · rw [decide_eq_true h1]; simp only [if_true, Bool.true_and]
      refine Ev.bindv (In_eq _ _ _) ?_
      by_cases h2 : -1000000 ≤ n ∧ n ≤ 1000000
      · rw [decide_eq_true h2]; simp only [if_true, Bool.true_and]
        exact Ev.bind (spec_l01Gcd_ev n d (by omega) (by omega) (by omega) (by omega)) (Ev.now _)
      · rw [decide_eq_false h2]; simp; exact Ev.now _
    · rw [decide_eq_false h1]; simp; exact Ev.now _

-- block mat
def entB (x : Int) : Bool := decide (-1000 ≤ x ∧ x ≤ 1000)
/-- What both texts take for a matrix: its four entries. -/
def matB (a b c d : Int) : Bool := (entB a && (entB b && (entB c && entB d))) && !(a * d - b * c == 0)
theorem ent_lo {x : Int} (h : entB x = true) : -1000 ≤ x := by unfold entB at h; simp at h; omega
theorem ent_hi {x : Int} (h : entB x = true) : x ≤ 1000 := by unfold entB at h; simp at h; omega
theorem mul_bd {x y m n : Int} (hx : -m ≤ x) (hx2 : x ≤ m) (hy : -n ≤ y) (hy2 : y ≤ n) (hm : 0 ≤ m) (hn : 0 ≤ n) : -(m * n) ≤ x * y ∧ x * y ≤ m * n := by
  have h1 := Int.mul_nonneg (show 0 ≤ m - x by omega) (show 0 ≤ n - y by omega)
  have h2 := Int.mul_nonneg (show 0 ≤ m + x by omega) (show 0 ≤ n + y by omega)
  have h3 := Int.mul_nonneg (show 0 ≤ m - x by omega) (show 0 ≤ n + y by omega)
  have h4 := Int.mul_nonneg (show 0 ≤ m + x by omega) (show 0 ≤ n - y by omega)
  simp only [Int.sub_mul, Int.mul_sub, Int.add_mul, Int.mul_add] at h1 h2 h3 h4
  constructor <;> omega
theorem det_bd {a b c d m : Int} (hm : 0 ≤ m) (ha : -m ≤ a ∧ a ≤ m) (hb : -m ≤ b ∧ b ≤ m) (hc : -m ≤ c ∧ c ≤ m) (hd : -m ≤ d ∧ d ≤ m) : (-(m * m) ≤ a * d ∧ a * d ≤ m * m) ∧ (-(m * m) ≤ b * c ∧ b * c ≤ m * m) :=
  ⟨mul_bd ha.1 ha.2 hd.1 hd.2 hm hm, mul_bd hb.1 hb.2 hc.1 hc.2 hm hm⟩

-- block spec_l04Is
theorem spec_l04Det_eq {a b c d m : Int} (hm : 0 ≤ m) (hm2 : m ≤ 2000000000) (ha : -m ≤ a ∧ a ≤ m) (hb : -m ≤ b ∧ b ≤ m) (hc : -m ≤ c ∧ c ≤ m) (hd : -m ≤ d ∧ d ≤ m) : spec_l04Det.f a b c d = some (a * d - b * c) := by
  have hmm : m * m ≤ 4000000000000000000 := by have := Int.mul_le_mul hm2 hm2 hm (by omega); omega
  obtain ⟨h1, h2⟩ := det_bd hm ha hb hc hd
  unfold spec_l04Det.f
  rw [wid (n := a * d) (by omega) (by omega), wid (n := b * c) (by omega) (by omega), wid (by omega) (by omega)]
theorem spec_l04Is_ev (a b c d : Int) : Ev (fun k => spec_l04Is.f k a b c d) (matB a b c d) := by
  have w0 : wrap64 1 = 1 := wid (by omega) (by omega)
  have w1 : wrap64 2 = 2 := wid (by omega) (by omega)
  have hI : ∀ x : Int, spec_l01In.f x (-1000) 1000 = some (entB x) := fun x => In_eq x _ _
  unfold spec_l04Is.f matB
  refine Ev.step (f := fun k => spec_l04Is.l1 k 0 0 a b c d) (fun k => by simp only [spec_l04Is.l0]; rw [if_pos (by decide)]) ?_
  have no : Ev (fun _ : Nat => (some false : Option Bool)) false := Ev.now _
  cases ha : entB a with
  | false => exact Ev.step (f := fun _ => some false) (fun k => by simp [spec_l04Is.l1, hI, ha]) no
  | true =>
  refine Ev.step (f := fun k => spec_l04Is.l1 k 0 1 a b c d) (fun k => by simp [spec_l04Is.l1, hI, ha, w0]) ?_
  cases hb : entB b with
  | false => exact Ev.step (f := fun _ => some false) (fun k => by simp [spec_l04Is.l1, hI, hb]) no
  | true =>
  refine Ev.step (f := fun k => spec_l04Is.l1 k 0 2 a b c d) (fun k => by simp [spec_l04Is.l1, hI, hb, w1]) ?_
  refine Ev.step (f := fun k => spec_l04Is.l0 k 1 a b c d) (fun k => by simp [spec_l04Is.l1, w0]) ?_
  refine Ev.step (f := fun k => spec_l04Is.l1 k 1 0 a b c d) (fun k => by simp only [spec_l04Is.l0]; rw [if_pos (by decide)]) ?_
  cases hc : entB c with
  | false => exact Ev.step (f := fun _ => some false) (fun k => by simp [spec_l04Is.l1, hI, hc]) no
  | true =>
  refine Ev.step (f := fun k => spec_l04Is.l1 k 1 1 a b c d) (fun k => by simp [spec_l04Is.l1, hI, hc, w0]) ?_
  cases hd : entB d with
  | false => exact Ev.step (f := fun _ => some false) (fun k => by simp [spec_l04Is.l1, hI, hd]) no
  | true =>
  refine Ev.step (f := fun k => spec_l04Is.l1 k 1 2 a b c d) (fun k => by simp [spec_l04Is.l1, hI, hd, w1]) ?_
  refine Ev.step (f := fun k => spec_l04Is.l0 k 2 a b c d) (fun k => by simp [spec_l04Is.l1, w1]) ?_
  refine Ev.step (f := fun _ => (spec_l04Det.f a b c d).bind fun t => some (t != 0)) (fun k => by simp only [spec_l04Is.l0]; rw [if_neg (by decide)]) ?_
  refine Ev.bindv (spec_l04Det_eq (m := 1000) (by omega) (by omega) ⟨ent_lo ha, ent_hi ha⟩ ⟨ent_lo hb, ent_hi hb⟩ ⟨ent_lo hc, ent_hi hc⟩ ⟨ent_lo hd, ent_hi hd⟩) ?_
  simp only [Bool.true_and]
  exact Ev.now _

-- block toMatrix
theorem laws_toInt64A2_ev (a b : Int) : Ev (fun k => laws_toInt64A2.f k a b) (a, b) := by
  have w0 : wrap64 1 = 1 := wid (by omega) (by omega)
  have w1 : wrap64 2 = 2 := wid (by omega) (by omega)
  unfold laws_toInt64A2.f
  refine Ev.step (f := fun k => laws_toInt64A2.l0 k 1 a b a 0) (fun k => by simp [laws_toInt64A2.l0, w0]) ?_
  refine Ev.step (f := fun k => laws_toInt64A2.l0 k 2 a b a b) (fun k => by simp [laws_toInt64A2.l0, w1]) ?_
  exact Ev.step (f := fun _ => some (a, b)) (fun k => by simp [laws_toInt64A2.l0]) (Ev.now _)
theorem laws_toMatrix_ev (a b c d : Int) : Ev (fun k => laws_toMatrix.f k a b c d) (a, b, c, d) := by
  have w0 : wrap64 1 = 1 := wid (by omega) (by omega)
  have w1 : wrap64 2 = 2 := wid (by omega) (by omega)
  unfold laws_toMatrix.f
  refine Ev.step (f := fun k => (laws_toInt64A2.f k a b).bind fun t => laws_toMatrix.l0 k 1 a b c d t.1 t.2 0 0) (fun k => by simp [laws_toMatrix.l0, w0]) ?_
  refine Ev.bind (laws_toInt64A2_ev a b) ?_
  refine Ev.step (f := fun k => (laws_toInt64A2.f k c d).bind fun t => laws_toMatrix.l0 k 2 a b c d a b t.1 t.2) (fun k => by simp [laws_toMatrix.l0, w1]) ?_
  refine Ev.bind (laws_toInt64A2_ev c d) ?_
  exact Ev.step (f := fun _ => some (a, b, c, d)) (fun k => by simp [laws_toMatrix.l0]) (Ev.now _)

-- block impl_isPrime
theorem impl_isPrime_eq (p : Int) : impl_isPrime.f p = some (primeB p) := by
  unfold impl_isPrime.f primeB
  by_cases h2 : p = 2
  · simp [h2]
  · by_cases h3 : p = 3
    · simp [h3]
    · by_cases h5 : p = 5
      · simp [h5]
      · rw [if_neg h2, if_neg h3, if_neg h5, beq_eq_false_iff_ne.2 h2, beq_eq_false_iff_ne.2 h3, beq_eq_false_iff_ne.2 h5]; rfl

-- block impl_power
theorem impl_power_l (p N : Int) (hN : N ≤ 9223372036854775807) (n : Nat) : ∀ (acc i : Int), 0 ≤ i → (i + n = N ∨ (n = 0 ∧ N ≤ i)) → Ev (fun k => impl_power.l0 k p acc N i) (powW p n acc) := by
  induction n with
  | zero =>
    intro acc i hi hx
    exact Ev.step (f := fun _ => some acc) (fun k => by simp only [impl_power.l0]; rw [if_neg (by omega)]) (Ev.now _)
  | succ n ih =>
    intro acc i hi hx
    exact Ev.step (f := fun k => impl_power.l0 k p (wrap64 (acc * p)) N (i + 1)) (fun k => by
      simp only [impl_power.l0]; rw [if_pos (by omega), show wrap64 (i + 1) = i + 1 from wid (by omega) (by omega)]) (ih _ (i + 1) (by omega) (by omega))
theorem impl_power_ev (p x : Int) (h : x ≤ 9223372036854775807) : Ev (fun k => impl_power.f k p x) (powW p x.toNat 1) := by
  refine Ev.congr (f := fun k => impl_power.l0 k p 1 x 0) (fun k => rfl) (impl_power_l p x h x.toNat 1 0 (by omega) (by omega))

-- block impl_IsBall
theorem impl_isLevel_eq (L : Int) : impl_isLevel.f L = some (decide (-6 ≤ L ∧ L ≤ 6)) := by
  unfold impl_isLevel.f
  by_cases h : L ≥ -6
  · rw [if_pos h]; congr 1; exact decide_eq_decide.2 ⟨fun h2 => ⟨h, h2⟩, fun h2 => h2.2⟩
  · rw [if_neg h]; congr 1; exact (decide_eq_false (fun h2 => h h2.1)).symm
theorem impl_IsBall_ev (p L T D : Int) : Ev (fun k => impl_IsBall.f k p L T D) (ballB p L T D) := by
  have hno : Ev (fun k => impl_IsBall.j0 k p true L T D) false := Ev.step (f := fun _ => some false) (fun k => by simp only [impl_IsBall.j0, if_true]) (Ev.now _)
  unfold impl_IsBall.f
  refine Ev.bindv (impl_isPrime_eq p) ?_
  unfold ballB
  cases hp : primeB p with
  | false => simpa using hno
  | true =>
    have hp2 := prime_lo hp
    simp only [if_true, Bool.true_and]
    refine Ev.bindv (impl_isLevel_eq L) ?_
    by_cases hL : -6 ≤ L ∧ L ≤ 6
    · rw [decide_eq_true hL]; simp only [if_true, Bool.true_and]
      by_cases hD0 : D < 0
      · rw [decide_eq_false (show ¬ (0 ≤ D ∧ D ≤ 6) by omega)]; simp only [if_pos hD0, Bool.false_and]; exact hno
      simp only [if_neg hD0]
      by_cases hD : 0 ≤ D ∧ D ≤ 6
      · rw [decide_eq_true hD, decide_eq_false (show ¬ D > 6 by omega)]; simp only [Bool.true_and]
        have hn := wid (n := L + D) (by omega) (by omega)
        by_cases h0 : L + D ≤ 0
        · rw [if_pos h0]
          refine Ev.step (f := fun _ => some (T == 0 && D == 0)) (fun k => ?_) (Ev.now _)
          simp only [impl_IsBall.j0]
          rw [if_neg (by decide), hn, if_pos h0]
          by_cases hT : T = 0
          · simp [hT]
          · simp [hT]
        · rw [if_neg h0]
          by_cases hT0 : T ≥ 0
          · refine Ev.step (f := fun k => (impl_power.f k p (L + D)).bind fun t => if T < t then (if D = 0 then some true else if p = 0 then none else some (Int.tmod T p != 0)) else some false) (fun k => by simp only [impl_IsBall.j0]; rw [if_neg (by decide), hn, if_neg h0, if_pos hT0]) ?_
            refine Ev.bind (impl_power_ev p (L + D) (by omega)) ?_
            rw [powW_prime hp _ (by omega)]
            by_cases hT1 : T < p ^ (L + D).toNat
            · rw [if_pos hT1, decide_eq_true (show 0 ≤ T ∧ T < p ^ (L + D).toNat from ⟨hT0, hT1⟩), Bool.true_and]
              by_cases hd : D = 0
              · simp only [hd, if_true]; simp; exact Ev.now _
              · rw [if_neg hd, if_neg (by omega), show (D == 0) = false from beq_eq_false_iff_ne.2 hd, Bool.false_or]
                exact Ev.now _
            · rw [if_neg hT1, decide_eq_false (show ¬ (0 ≤ T ∧ T < p ^ (L + D).toNat) from fun h => hT1 h.2), Bool.false_and]
              exact Ev.now _
          · rw [decide_eq_false (show ¬ (0 ≤ T ∧ T < p ^ (L + D).toNat) from fun h => hT0 h.1), Bool.false_and]
            refine Ev.step (f := fun _ => some false) (fun k => ?_) (Ev.now _)
            simp only [impl_IsBall.j0]
            rw [if_neg (by decide), hn, if_neg h0, if_neg hT0]
      · rw [decide_eq_false hD, decide_eq_true (show D > 6 by omega)]; simpa using hno
    · rw [decide_eq_false hL]; simpa using hno

-- block impl_areBalls
theorem impl_areBalls_ev (p : Int) (l : List S26) (hl : l.length ≤ 4611686018427387904) : Ev (fun k => impl_areBalls.f k p l) (primeB p && l.all (fun b => ballB p b.f0 b.f1 b.f2)) := by
  unfold impl_areBalls.f
  have hr : ∀ (i : Nat) (k : Nat), i < l.length → impl_areBalls.l0 (k + 1) p l l.length i = (impl_IsBall.f k p (l.getD i z26).f0 (l.getD i z26).f1 (l.getD i z26).f2).bind fun t => if t = true then impl_areBalls.l0 k p l l.length ((i : Int) + 1) else some false := by
    intro i k hi
    simp only [impl_areBalls.l0]
    rw [if_pos (by omega), if_pos (by omega), if_pos (by omega), wid (by omega) (by omega)]; rfl
  have := all_ev' (fun k i => impl_areBalls.l0 k p l l.length i) l.length (fun i => ballB p (l.getD i z26).f0 (l.getD i z26).f1 (l.getD i z26).f2) (primeB p) false (by
    intro i r hi hb hr'
    refine Ev.step (hr i · hi) (Ev.bind (impl_IsBall_ev _ _ _ _) ?_)
    rw [hb]; simpa using hr') (by
    intro i hi hb
    refine Ev.step (hr i · hi) (Ev.bind (impl_IsBall_ev _ _ _ _) ?_)
    rw [hb]; simp; exact Ev.now _) (by
    refine Ev.step (f := fun _ => (impl_isPrime.f p).bind fun t => some t) (fun k => by simp only [impl_areBalls.l0]; rw [if_neg (by omega)]) ?_
    exact Ev.bindv (impl_isPrime_eq p) (Ev.now _))
  rw [all_range_getD l z26 (fun b => ballB p b.f0 b.f1 b.f2)] at this
  rw [show (primeB p && l.all (fun b => ballB p b.f0 b.f1 b.f2)) = (if l.all (fun b => ballB p b.f0 b.f1 b.f2) = true then primeB p else false) from by cases l.all (fun b => ballB p b.f0 b.f1 b.f2) <;> simp]
  exact this

-- block impl_within
theorem impl_within_ev (m : Int) (l : List Int) (hm : 0 ≤ m) (hm2 : m ≤ 4611686018427387904) (hl : l.length ≤ 4611686018427387904) : Ev (fun k => impl_within.f k m l) (l.all (fun x => decide (-m ≤ x ∧ x ≤ m))) := by
  unfold impl_within.f
  rw [← ite_tf (l.all _), ← all_range_rd]
  have w : wrap64 (-m) = -m := wid (by omega) (by omega)
  refine all_ev' (fun k i => impl_within.l0 k m l l.length i) l.length (fun i => decide (-m ≤ rd l (i : Int) ∧ rd l (i : Int) ≤ m)) true false ?_ ?_ ?_
  · intro i r hi hp hr
    have hp := of_decide_eq_true hp
    refine Ev.step (f := fun k => impl_within.l0 k m l l.length ((i : Int) + 1)) (fun k => ?_) hr
    simp only [impl_within.l0]
    rw [if_pos (by omega), if_pos (by omega), if_pos (by omega), w, if_neg (by omega), if_neg (by omega), wid (by omega) (by omega)]
  · intro i hi hp
    have hp := of_decide_eq_false hp
    refine Ev.step (f := fun _ => some false) (fun k => ?_) (Ev.now _)
    simp only [impl_within.l0]
    rw [if_pos (by omega), if_pos (by omega), if_pos (by omega), w]
    by_cases h : rd l (i : Int) < -m
    · rw [if_pos h]
    · rw [if_neg h, if_pos (by omega)]
  · exact Ev.step (f := fun _ => some true) (fun k => by simp only [impl_within.l0]; rw [if_neg (by omega)]) (Ev.now _)

-- block impl_gcd
theorem impl_gcd_l (n : Nat) : ∀ (a b : Int), b.natAbs < n → -9223372036854775807 ≤ a → a ≤ 9223372036854775807 → -9223372036854775807 ≤ b → b ≤ 9223372036854775807 → Ev (fun k => impl_gcd.l0 k a b) (Int.gcd a b : Int) := by
  induction n with
  | zero => intro a b h; omega
  | succ n ih =>
    intro a b hn ha1 ha2 hb1 hb2
    by_cases hb : b = 0
    · subst hb
      refine Ev.step (f := fun _ => some (mx a (wrap64 (-a)))) (fun k => by simp only [impl_gcd.l0, if_true]) ?_
      rw [mx_abs a ha1 ha2, Int.gcd_zero_right]; exact Ev.now _
    · have hlt : (Int.tmod a b).natAbs < b.natAbs := by rw [Int.natAbs_tmod]; exact Nat.mod_lt _ (by omega)
      refine Ev.step (f := fun k => impl_gcd.l0 k b (Int.tmod a b)) (fun k => by simp only [impl_gcd.l0]; rw [if_neg hb]) ?_
      rw [← gcd_step a b hb]
      exact ih _ _ (by omega) hb1 hb2 (by omega) (by omega)
theorem impl_gcd_ev (a b : Int) (ha1 : -9223372036854775807 ≤ a) (ha2 : a ≤ 9223372036854775807) (hb1 : -9223372036854775807 ≤ b) (hb2 : b ≤ 9223372036854775807) : Ev (fun k => impl_gcd.f k a b) (Int.gcd a b : Int) := by
  unfold impl_gcd.f
  exact impl_gcd_l (b.natAbs + 1) a b (by omega) ha1 ha2 hb1 hb2

-- block impl_IsEnd
theorem impl_IsEnd_ev (n d : Int) : Ev (fun k => impl_IsEnd.f k n d) (endB n d) := by
  unfold impl_IsEnd.f endB
  by_cases h0 : d = 0
  · simp only [if_pos h0]; exact Ev.now _
  · simp only [if_neg h0]
    refine Ev.bind (impl_within_ev 1000000 [n, d] (by omega) (by omega) (by simp)) ?_
    by_cases h2 : -1000000 ≤ n ∧ n ≤ 1000000
    · by_cases h1 : 1 ≤ d ∧ d ≤ 1000000
      · rw [show ([n, d] : List Int).all (fun x => decide (-1000000 ≤ x ∧ x ≤ 1000000)) = true from by simp; omega, decide_eq_true h1, decide_eq_true h2]
        simp only [if_true, Bool.true_and, if_pos (show d > 0 by omega)]
        exact Ev.bind (impl_gcd_ev n d (by omega) (by omega) (by omega) (by omega)) (Ev.now _)
      · rw [decide_eq_false h1, Bool.false_and]
        by_cases h3 : d > 0
        · rw [show ([n, d] : List Int).all (fun x => decide (-1000000 ≤ x ∧ x ≤ 1000000)) = false from by simp; omega]
          simp; exact Ev.now _
        · cases ([n, d] : List Int).all (fun x => decide (-1000000 ≤ x ∧ x ≤ 1000000)) with
          | true => simp only [if_true, if_neg h3]; exact Ev.now _
          | false => simp; exact Ev.now _
    · rw [show ([n, d] : List Int).all (fun x => decide (-1000000 ≤ x ∧ x ≤ 1000000)) = false from by simp; omega, decide_eq_false h2]
      simp; exact Ev.now _

-- block impl_IsMatrix
theorem impl_determinant_eq {a b c d m : Int} (hm : 0 ≤ m) (hm2 : m ≤ 2000000000) (ha : -m ≤ a ∧ a ≤ m) (hb : -m ≤ b ∧ b ≤ m) (hc : -m ≤ c ∧ c ≤ m) (hd : -m ≤ d ∧ d ≤ m) : impl_determinant.f a b c d = some (a * d - b * c) := by
  have hmm : m * m ≤ 4000000000000000000 := by have := Int.mul_le_mul hm2 hm2 hm (by omega); omega
  obtain ⟨h1, h2⟩ := det_bd hm ha hb hc hd
  unfold impl_determinant.f
  rw [wid (n := a * d) (by omega) (by omega), wid (n := b * c) (by omega) (by omega), wid (by omega) (by omega)]
theorem impl_IsMatrix_ev (a b c d : Int) : Ev (fun k => impl_IsMatrix.f k a b c d) (matB a b c d) := by
  unfold impl_IsMatrix.f matB
  refine Ev.bind (impl_within_ev 1000 [a, b, c, d] (by omega) (by omega) (by simp)) ?_
  rw [show ([a, b, c, d] : List Int).all (fun x => decide (-1000 ≤ x ∧ x ≤ 1000)) = (entB a && (entB b && (entB c && entB d))) from by simp [entB]]
  cases h : (entB a && (entB b && (entB c && entB d))) with
  | false => simp only [Bool.false_eq_true, if_false, Bool.false_and]; exact Ev.now _
  | true =>
    simp only [Bool.and_eq_true] at h
    simp only [if_true, Bool.true_and]
    refine Ev.bindv (impl_determinant_eq (m := 1000) (by omega) (by omega) ⟨ent_lo h.1, ent_hi h.1⟩ ⟨ent_lo h.2.1, ent_hi h.2.1⟩ ⟨ent_lo h.2.2.1, ent_hi h.2.2.1⟩ ⟨ent_lo h.2.2.2, ent_hi h.2.2.2⟩) ?_
    exact Ev.now _

theorem FnExactIsDesk : laws_FnExactIsDesk.Pure := by
  intro p l1 t1 d1 l2 t2 d2 en ed a b c d _ _ _ _ _ _ _ _ _ _ _ _ _
  refine Ev.rounds ?_
  have hto : Ev (fun k => laws_toDesk.f k p l1 t1 d1 l2 t2 d2 en ed a b c d) (p, l1, t1, d1, l2, t2, d2, en, ed, a, b, c, d) := by
    unfold laws_toDesk.f laws_toBall.f laws_toEnd.f
    simp only [Option.bind_some]
    exact Ev.bind (laws_toMatrix_ev a b c d) (Ev.now _)
  have hs : Ev (fun k => spec_IsDesk.f k p l1 t1 d1 l2 t2 d2 en ed a b c d) (codeB p [⟨l1, t1, d1⟩, ⟨l2, t2, d2⟩] && (endB en ed && matB a b c d)) := by
    unfold spec_IsDesk.f
    refine Ev.bind (spec_l01Code_ev p [⟨l1, t1, d1⟩, ⟨l2, t2, d2⟩] (by simp)) ?_
    cases codeB p [⟨l1, t1, d1⟩, ⟨l2, t2, d2⟩] with
    | false => simp; exact Ev.now _
    | true =>
      simp only [if_true, Bool.true_and]
      refine Ev.bind (spec_l01End_ev en ed) ?_
      cases endB en ed with
      | false => simp; exact Ev.now _
      | true =>
        simp only [if_true, Bool.true_and]
        exact Ev.bind (spec_l04Is_ev a b c d) (Ev.now _)
  have hi : Ev (fun k => impl_IsDesk.f k p l1 t1 d1 l2 t2 d2 en ed a b c d) (codeB p [⟨l1, t1, d1⟩, ⟨l2, t2, d2⟩] && (endB en ed && matB a b c d)) := by
    unfold impl_IsDesk.f
    refine Ev.bind (impl_areBalls_ev p [⟨l1, t1, d1⟩, ⟨l2, t2, d2⟩] (by simp)) ?_
    show Ev (fun k => if codeB p [⟨l1, t1, d1⟩, ⟨l2, t2, d2⟩] = true then _ else _) _
    cases codeB p [⟨l1, t1, d1⟩, ⟨l2, t2, d2⟩] with
    | false => simp; exact Ev.now _
    | true =>
      simp only [if_true, Bool.true_and]
      refine Ev.bind (impl_IsEnd_ev en ed) ?_
      cases endB en ed with
      | false => simp; exact Ev.now _
      | true =>
        simp only [if_true, Bool.true_and]
        exact Ev.bind (impl_IsMatrix_ev a b c d) (Ev.now _)
  unfold laws_FnExactIsDesk.f
  refine Ev.bind hto (Ev.bind hs (Ev.bind hto (Ev.bind hi ?_)))
  simp only [bne_self_eq_false, Bool.false_eq_true, if_false]
  exact Ev.now _

end Go.Proofs.Ytmhlmpcfpkfjcaa.Pure
