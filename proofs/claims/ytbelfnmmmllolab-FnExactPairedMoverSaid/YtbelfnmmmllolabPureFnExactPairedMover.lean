/- For every p and two balls, PairedMover of the program and of the reference return the same matrix and code; no condition beyond the row's. -/
import Derived.Test.YtbelfnmmmllolabQBx34
namespace Go.Proofs.Ytbelfnmmmllolab.Pure
open Go.RowKit Go.Proofs.Ytbelfnmmmllolab.QB Go.Proofs.YtbelfnmmmllolabW.PrintWords Go.Proofs.YtbelfnmmmllolabW.PrintLast
set_option linter.unusedVariables false
set_option linter.unusedSimpArgs false
set_option linter.unusedSectionVars false

-- block base
theorem wid {n : Int} (h0 : -9223372036854775808 ≤ n) (h1 : n ≤ 9223372036854775807) : wrap64 n = n := by unfold wrap64; omega
theorem wrap_lo (n : Int) : -9223372036854775808 ≤ wrap64 n := by unfold wrap64; omega
theorem wrap_hi (n : Int) : wrap64 n ≤ 9223372036854775807 := by unfold wrap64; omega
theorem wf_lo {a : Int} (h : (Lit.int .i64 a).wf = true) : -9223372036854775808 ≤ a := by
  simp only [Lit.wf, Bool.and_eq_true, decide_eq_true_eq] at h
  exact h.1
theorem wf_hi {a : Int} (h : (Lit.int .i64 a).wf = true) : a ≤ 9223372036854775807 := by
  simp only [Lit.wf, Bool.and_eq_true, decide_eq_true_eq] at h
  exact h.2
theorem Ev.val {α : Type} {o : Option α} {r : α} (h : o = some r) : Ev (fun _ => o) r := ⟨0, fun _ _ => h⟩
/-- What comes first is known for every number of rounds. -/
theorem Ev.bindv {α β : Type} {o : Option α} {f : Nat → α → Option β} {a : α} {r : β} (h : o = some a) (k : Ev (fun n => f n a) r) : Ev (fun n => o.bind (f n)) r := by
  subst h; exact k

-- block mat
def entB (x : Int) : Bool := decide (-1000 ≤ x ∧ x ≤ 1000)
/-- What both texts take for a matrix: its four entries. -/
def matB (a b c d : Int) : Bool := (entB a && (entB b && (entB c && entB d))) && !(a * d - b * c == 0)
theorem ent_lo {x : Int} (h : entB x = true) : -1000 ≤ x := by unfold entB at h; simp at h; omega
theorem ent_hi {x : Int} (h : entB x = true) : x ≤ 1000 := by unfold entB at h; simp at h; omega
theorem mul_bd {x y m n : Int} (hx : -m ≤ x) (hx2 : x ≤ m) (hy : -n ≤ y) (hy2 : y ≤ n) (hm : 0 ≤ m) (hn : 0 ≤ n) : -(m * n) ≤ x * y ∧ x * y ≤ m * n := by
  have h1 := Int.mul_nonneg (show 0 ≤ m - x by omega) (show 0 ≤ n - y by omega)
  have h2 := Int.mul_nonneg (show 0 ≤ m + x by omega) (show 0 ≤ n + y by omega)
  have h3 := Int.mul_nonneg (show 0 ≤ m - x by omega) (show 0 ≤ n + y by omega)
  have h4 := Int.mul_nonneg (show 0 ≤ m + x by omega) (show 0 ≤ n - y by omega)
  simp only [Int.sub_mul, Int.mul_sub, Int.add_mul, Int.mul_add] at h1 h2 h3 h4
  constructor <;> omega
theorem det_bd {a b c d m : Int} (hm : 0 ≤ m) (ha : -m ≤ a ∧ a ≤ m) (hb : -m ≤ b ∧ b ≤ m) (hc : -m ≤ c ∧ c ≤ m) (hd : -m ≤ d ∧ d ≤ m) : (-(m * m) ≤ a * d ∧ a * d ≤ m * m) ∧ (-(m * m) ≤ b * c ∧ b * c ≤ m * m) :=
  ⟨mul_bd ha.1 ha.2 hd.1 hd.2 hm hm, mul_bd hb.1 hb.2 hc.1 hc.2 hm hm⟩

-- block mxmn
theorem mx_abs (a : Int) (h : -9223372036854775807 ≤ a) (h2 : a ≤ 9223372036854775807) : mx a (wrap64 (-a)) = (a.natAbs : Int) := by
  rw [wid (by omega) (by omega)]; unfold mx; split <;> omega

-- block gcdlem
theorem gcd_step (a b : Int) (h : b ≠ 0) : Int.gcd b (Int.tmod a b) = Int.gcd a b := by
  unfold Int.gcd
  rw [Int.natAbs_tmod, Nat.gcd_comm a.natAbs b.natAbs]
  conv => rhs; rw [Nat.gcd_rec]
  rw [Nat.gcd_comm]

-- block redM
def bd62 (x : Int) : Prop := -4611686018427387904 ≤ x ∧ x ≤ 4611686018427387904
/-- The greatest common divisor of four entries, and the sign of the first row. -/
def g4 (a b c d : Int) : Int := (Int.gcd (Int.gcd a b : Int) (Int.gcd c d : Int) : Int)
def sg (a b : Int) : Int := if a < 0 ∨ (a = 0 ∧ b < 0) then -1 else 1
def byM (a b c d : Int) : Int := g4 a b c d * sg a b
theorem sg_or (a b : Int) : sg a b = 1 ∨ sg a b = -1 := by unfold sg; split <;> simp
theorem g4_nonneg (a b c d : Int) : 0 ≤ g4 a b c d := by unfold g4; omega
theorem g4_dvd (a b c d : Int) : g4 a b c d ∣ a ∧ g4 a b c d ∣ b ∧ g4 a b c d ∣ c ∧ g4 a b c d ∣ d := by
  unfold g4
  have h1 := Int.gcd_dvd_left (Int.gcd a b : Int) (Int.gcd c d : Int)
  have h2 := Int.gcd_dvd_right (Int.gcd a b : Int) (Int.gcd c d : Int)
  exact ⟨Int.dvd_trans h1 (Int.gcd_dvd_left a b), Int.dvd_trans h1 (Int.gcd_dvd_right a b), Int.dvd_trans h2 (Int.gcd_dvd_left c d), Int.dvd_trans h2 (Int.gcd_dvd_right c d)⟩
theorem g4_ne {a b : Int} (c d : Int) (h : a ≠ 0 ∨ b ≠ 0) : g4 a b c d ≠ 0 := by
  intro e
  obtain ⟨h1, h2, _⟩ := g4_dvd a b c d
  rw [e] at h1 h2
  rcases h with h | h
  · exact h (Int.zero_dvd.1 h1)
  · exact h (Int.zero_dvd.1 h2)
theorem byM_ne {a b : Int} (c d : Int) (h : a ≠ 0 ∨ b ≠ 0) : byM a b c d ≠ 0 := by
  have := g4_ne c d h
  unfold byM
  rcases sg_or a b with e | e <;> rw [e] <;> omega
theorem byM_dvd (a b c d : Int) : byM a b c d ∣ a ∧ byM a b c d ∣ b ∧ byM a b c d ∣ c ∧ byM a b c d ∣ d := by
  have h := g4_dvd a b c d
  unfold byM
  rcases sg_or a b with e | e <;> rw [e]
  · simpa using h
  · simpa using h
theorem gcd_le {a b M : Int} (ha : -M ≤ a ∧ a ≤ M) (hb : -M ≤ b ∧ b ≤ M) : (Int.gcd a b : Int) ≤ M := by
  by_cases h : a = 0
  · subst h; rw [Int.gcd_zero_left]; omega
  · have : Int.gcd a b ≤ a.natAbs := Nat.gcd_le_left _ (by omega)
    omega
theorem tdiv_bd {x M : Int} (g : Int) (hx : -M ≤ x ∧ x ≤ M) : -M ≤ Int.tdiv x g ∧ Int.tdiv x g ≤ M := by
  have := Int.natAbs_tdiv_le_natAbs x g
  omega
/-- The determinant of the reduced matrix is 0 only where that of the matrix is. -/
theorem redDet {a b c d : Int} (h : a * d - b * c ≠ 0) : Int.tdiv a (byM a b c d) * Int.tdiv d (byM a b c d) - Int.tdiv b (byM a b c d) * Int.tdiv c (byM a b c d) ≠ 0 := by
  obtain ⟨h1, h2, h3, h4⟩ := byM_dvd a b c d
  generalize byM a b c d = m at *
  have e1 := Int.tdiv_mul_cancel h1
  have e2 := Int.tdiv_mul_cancel h2
  have e3 := Int.tdiv_mul_cancel h3
  have e4 := Int.tdiv_mul_cancel h4
  generalize Int.tdiv a m = a' at *
  generalize Int.tdiv b m = b' at *
  generalize Int.tdiv c m = c' at *
  generalize Int.tdiv d m = d' at *
  intro e
  apply h
  rw [← e1, ← e2, ← e3, ← e4]
  have : a' * m * (d' * m) - b' * m * (c' * m) = (a' * d' - b' * c') * (m * m) := by
    rw [Int.sub_mul]; simp only [Int.mul_assoc, Int.mul_comm, Int.mul_left_comm]
  rw [this, e, Int.zero_mul]
/-- The four entries of the reduced matrix. -/
def rM (a b c d x : Int) : Int := Int.tdiv x (byM a b c d)
def fitM (a b c d : Int) : Bool := entB (rM a b c d a) && (entB (rM a b c d b) && (entB (rM a b c d c) && entB (rM a b c d d)))
theorem matB_red {a b c d : Int} (h : a * d - b * c ≠ 0) : matB (rM a b c d a) (rM a b c d b) (rM a b c d c) (rM a b c d d) = fitM a b c d := by
  unfold matB fitM rM
  rw [beq_eq_false_iff_ne.2 (redDet h), Bool.not_false, Bool.and_true]
theorem rowNe {a b c d : Int} (h : a * d - b * c ≠ 0) : a ≠ 0 ∨ b ≠ 0 := by
  by_cases ha : a = 0
  · right; intro hb; apply h; rw [ha, hb]; simp
  · left; exact ha

-- block redscale
theorem gcd_mul (m a b : Int) : (Int.gcd (m * a) (m * b) : Int) = (m.natAbs : Int) * (Int.gcd a b : Int) := by
  rw [Int.gcd_mul_left]; simp
theorem g4_mul (m a b c d : Int) : g4 (m * a) (m * b) (m * c) (m * d) = (m.natAbs : Int) * g4 a b c d := by
  unfold g4
  rw [gcd_mul, gcd_mul, gcd_mul, Int.natAbs_natCast]
theorem sg_mul {m a b : Int} (hm : m ≠ 0) (h : a ≠ 0 ∨ b ≠ 0) : sg (m * a) (m * b) = (if m < 0 then -1 else 1) * sg a b := by
  have key : ∀ x : Int, (m * x < 0 ↔ if m < 0 then 0 < x else x < 0) := by
    intro x
    by_cases hn : m < 0
    · rw [if_pos hn]
      constructor
      · intro h1
        rcases Int.lt_trichotomy x 0 with h2 | h2 | h2
        · have := Int.mul_pos_of_neg_of_neg hn h2; omega
        · subst h2; simp at h1
        · exact h2
      · intro h1; exact Int.mul_neg_of_neg_of_pos hn h1
    · rw [if_neg hn]
      have hp : 0 < m := by omega
      constructor
      · intro h1
        rcases Int.lt_trichotomy x 0 with h2 | h2 | h2
        · exact h2
        · subst h2; simp at h1
        · have := Int.mul_pos hp h2; omega
      · intro h1; exact Int.mul_neg_of_pos_of_neg hp h1
  have z : m * a = 0 ↔ a = 0 := by
    rw [Int.mul_eq_zero]
    constructor
    · intro h
      rcases h with h | h
      · exact absurd h hm
      · exact h
    · intro h; exact .inr h
  have ka := key a
  have kb := key b
  unfold sg
  by_cases hn : m < 0
  · rw [if_pos hn] at ka kb
    rw [if_pos hn]
    by_cases h1 : a < 0
    · rw [if_neg (by rw [ka, kb, z]; omega), if_pos (.inl h1)]; rfl
    · by_cases h2 : a = 0
      · by_cases h3 : b < 0
        · rw [if_neg (by rw [ka, kb, z]; omega), if_pos (.inr ⟨h2, h3⟩)]; rfl
        · rw [if_pos (by rw [ka, kb, z]; omega), if_neg (by omega)]; rfl
      · rw [if_pos (by rw [ka, kb, z]; omega), if_neg (by omega)]; rfl
  · rw [if_neg hn] at ka kb
    rw [if_neg hn, Int.one_mul]
    by_cases h1 : a < 0 ∨ (a = 0 ∧ b < 0)
    · rw [if_pos h1, if_pos (by rw [ka, kb, z]; exact h1)]
    · rw [if_neg h1, if_neg (by rw [ka, kb, z]; exact h1)]
theorem byM_mul {m a b : Int} (c d : Int) (hm : m ≠ 0) (h : a ≠ 0 ∨ b ≠ 0) : byM (m * a) (m * b) (m * c) (m * d) = m * byM a b c d := by
  unfold byM
  rw [g4_mul, sg_mul hm h]
  by_cases hn : m < 0
  · rw [if_pos hn, show (m.natAbs : Int) = -m from by omega]
    simp only [Int.neg_mul, Int.mul_neg, Int.one_mul, Int.neg_neg, Int.mul_assoc]
  · rw [if_neg hn, show (m.natAbs : Int) = m from by omega, Int.one_mul, Int.mul_assoc]
theorem tdiv_mul_same {m x y : Int} (hm : m ≠ 0) (h : y ∣ x) : Int.tdiv (m * x) (m * y) = Int.tdiv x y := by
  obtain ⟨q, rfl⟩ := h
  by_cases hy : y = 0
  · subst hy; simp
  · rw [← Int.mul_assoc, Int.mul_tdiv_cancel_left _ (Int.mul_ne_zero hm hy), Int.mul_tdiv_cancel_left _ hy]
/-- The reduced matrix of a multiple is that of the matrix. -/
theorem rM_mul {m a b : Int} (c d : Int) (hm : m ≠ 0) (h : a ≠ 0 ∨ b ≠ 0) : rM (m * a) (m * b) (m * c) (m * d) (m * a) = rM a b c d a ∧ rM (m * a) (m * b) (m * c) (m * d) (m * b) = rM a b c d b ∧ rM (m * a) (m * b) (m * c) (m * d) (m * c) = rM a b c d c ∧ rM (m * a) (m * b) (m * c) (m * d) (m * d) = rM a b c d d := by
  obtain ⟨h1, h2, h3, h4⟩ := byM_dvd a b c d
  unfold rM
  rw [byM_mul c d hm h]
  exact ⟨tdiv_mul_same hm h1, tdiv_mul_same hm h2, tdiv_mul_same hm h3, tdiv_mul_same hm h4⟩

-- block impl_gcd
theorem impl_gcd_l (n : Nat) : ∀ (a b : Int), b.natAbs < n → -9223372036854775807 ≤ a → a ≤ 9223372036854775807 → -9223372036854775807 ≤ b → b ≤ 9223372036854775807 → Ev (fun k => impl_gcd.l0 k a b) (Int.gcd a b : Int) := by
  induction n with
  | zero => intro a b h; omega
  | succ n ih =>
    intro a b hn ha1 ha2 hb1 hb2
    by_cases hb : b = 0
    · subst hb
      refine Ev.step (f := fun _ => some (mx a (wrap64 (-a)))) (fun k => by simp only [impl_gcd.l0, if_true]) ?_
      rw [mx_abs a ha1 ha2, Int.gcd_zero_right]; exact Ev.now _
    · have hlt : (Int.tmod a b).natAbs < b.natAbs := by rw [Int.natAbs_tmod]; exact Nat.mod_lt _ (by omega)
      refine Ev.step (f := fun k => impl_gcd.l0 k b (Int.tmod a b)) (fun k => by simp only [impl_gcd.l0]; rw [if_neg hb]) ?_
      rw [← gcd_step a b hb]
      exact ih _ _ (by omega) hb1 hb2 (by omega) (by omega)
theorem impl_gcd_ev (a b : Int) (ha1 : -9223372036854775807 ≤ a) (ha2 : a ≤ 9223372036854775807) (hb1 : -9223372036854775807 ≤ b) (hb2 : b ≤ 9223372036854775807) : Ev (fun k => impl_gcd.f k a b) (Int.gcd a b : Int) := by
  unfold impl_gcd.f
  exact impl_gcd_l (b.natAbs + 1) a b (by omega) ha1 ha2 hb1 hb2

-- block loops
theorem rd_nat (l : List Int) (j : Nat) (h : j < l.length) : rd l (j : Int) = l[j] := by
  unfold rd; rw [Int.toNat_natCast, List.getD_eq_getElem?_getD, List.getElem?_eq_getElem h]; rfl
/-- A loop that stores element after element of one list into another of the same length ends in the list. -/
theorem copy_ev {α : Type} (g : Nat → List α → Int → Option (List α)) (src : List α) (get : Int → α)
    (hstep : ∀ k (dst : List α) (i : Nat), i < src.length → dst.length = src.length → g (k + 1) dst i = g k (dst.set i (get i)) ((i : Int) + 1))
    (hend : ∀ k (dst : List α) (i : Nat), src.length ≤ i → dst.length = src.length → g (k + 1) dst i = some dst)
    (hget : ∀ (i : Nat) (h : i < src.length), get i = src[i]) (dst : List α) (hd : dst.length = src.length) : Ev (fun k => g k dst 0) src := by
  have key : ∀ (n i : Nat) (dst : List α), i + n = src.length → dst.length = src.length → (∀ (j : Nat) (h : j < src.length), j < i → dst[j]? = some src[j]) → Ev (fun k => g k dst i) src := by
    intro n
    induction n with
    | zero =>
      intro i dst hi hl hp
      refine Ev.step (f := fun _ => some dst) (fun k => hend k dst i (by omega) hl) ?_
      have e : dst = src := by
        refine List.ext_getElem? fun j => ?_
        by_cases h : j < src.length
        · rw [hp j h (by omega), List.getElem?_eq_getElem h]
        · rw [List.getElem?_eq_none (by omega), List.getElem?_eq_none (by omega)]
      rw [e]; exact Ev.now _
    | succ n ih =>
      intro i dst hi hl hp
      refine Ev.step (f := fun k => g k (dst.set i (get i)) ((i + 1 : Nat) : Int)) (fun k => ?_) (ih (i + 1) _ (by omega) (by rw [List.length_set]; exact hl) ?_)
      · rw [hstep k dst i (by omega) hl]; rfl
      · intro j h hj
        by_cases e : j = i
        · subst e
          rw [List.getElem?_set_self (by omega), hget j h]
        · rw [List.getElem?_set_ne (by omega)]; exact hp j h (by omega)
  exact key src.length 0 dst (by omega) hd (fun j h hj => by omega)
/-- A loop over places that goes on as long as a test says yes, and answers no at the first no. -/
theorem all_ev {β : Type} (g : Nat → Int → Option β) (n : Nat) (p : Nat → Bool) (yes no : β)
    (hstep : ∀ (i : Nat), i < n → p i = true → Ev (fun k => g k ((i : Int) + 1)) yes → Ev (fun k => g k i) yes)
    (hstepno : ∀ (i : Nat), i < n → p i = true → Ev (fun k => g k ((i : Int) + 1)) no → Ev (fun k => g k i) no)
    (hno : ∀ (i : Nat), i < n → p i = false → Ev (fun k => g k i) no)
    (hend : Ev (fun k => g k n) yes) : Ev (fun k => g k 0) (if (List.range n).all p then yes else no) := by
  have key : ∀ (d i : Nat), i + d = n → Ev (fun k => g k i) (if (List.range' i d).all p then yes else no) := by
    intro d
    induction d with
    | zero => intro i hi; have : i = n := by omega
              subst this; simpa using hend
    | succ d ih =>
      intro i hi
      have h := ih (i + 1) (by omega)
      rw [List.range'_succ, List.all_cons]
      cases e : p i with
      | false => simpa using hno i (by omega) e
      | true =>
        rw [Bool.true_and]
        have e1 : (((i + 1 : Nat) : Int)) = (i : Int) + 1 := by omega
        rw [e1] at h
        cases e2 : (List.range' (i + 1) d).all p with
        | true => rw [e2] at h; exact hstep i (by omega) e h
        | false => rw [e2] at h; exact hstepno i (by omega) e h
  have := key n 0 (by omega)
  rw [← List.range_eq_range'] at this
  exact this
theorem all_range_rd (l : List Int) (q : Int → Bool) : (List.range l.length).all (fun i => q (rd l (i : Int))) = l.all q := by
  rw [Bool.eq_iff_iff]
  simp only [List.all_eq_true, List.mem_range]
  constructor
  · intro h x hx
    obtain ⟨i, hi, rfl⟩ := List.mem_iff_getElem.1 hx
    have := h i hi
    rwa [rd_nat l i hi] at this
  · intro h i hi
    rw [rd_nat l i hi]
    exact h _ (List.getElem_mem hi)
theorem all_range_getD {α : Type} (l : List α) (d : α) (q : α → Bool) : (List.range l.length).all (fun i => q (l.getD i d)) = l.all q := by
  rw [Bool.eq_iff_iff]
  simp only [List.all_eq_true, List.mem_range]
  constructor
  · intro h x hx
    obtain ⟨i, hi, rfl⟩ := List.mem_iff_getElem.1 hx
    have := h i hi
    rwa [List.getD_eq_getElem?_getD, List.getElem?_eq_getElem hi] at this
  · intro h i hi
    rw [List.getD_eq_getElem?_getD, List.getElem?_eq_getElem hi]
    exact h _ (List.getElem_mem hi)
/-- all_ev, with one form of the step for both answers. -/
theorem all_ev' {β : Type} (g : Nat → Int → Option β) (n : Nat) (p : Nat → Bool) (yes no : β)
    (hstep : ∀ (i : Nat) (r : β), i < n → p i = true → Ev (fun k => g k ((i : Int) + 1)) r → Ev (fun k => g k i) r)
    (hno : ∀ (i : Nat), i < n → p i = false → Ev (fun k => g k i) no)
    (hend : Ev (fun k => g k n) yes) : Ev (fun k => g k 0) (if (List.range n).all p then yes else no) :=
  all_ev g n p yes no (fun i hi hp h => hstep i yes hi hp h) (fun i hi hp h => hstep i no hi hp h) hno hend
theorem ite_tf (b : Bool) : (if b then true else false) = b := by cases b <;> rfl
/-- copy_ev where a round of the loop makes calls. -/
theorem copy_ev' {α : Type} (g : Nat → List α → Int → Option (List α)) (src : List α)
    (hstep : ∀ (dst : List α) (i : Nat) (h : i < src.length) (r : List α), dst.length = src.length → Ev (fun k => g k (dst.set i src[i]) ((i : Int) + 1)) r → Ev (fun k => g k dst i) r)
    (hend : ∀ (dst : List α), dst.length = src.length → Ev (fun k => g k dst src.length) dst) (dst : List α) (hd : dst.length = src.length) : Ev (fun k => g k dst 0) src := by
  have key : ∀ (n i : Nat) (dst : List α), i + n = src.length → dst.length = src.length → (∀ (j : Nat) (h : j < src.length), j < i → dst[j]? = some src[j]) → Ev (fun k => g k dst i) src := by
    intro n
    induction n with
    | zero =>
      intro i dst hi hl hp
      have e : dst = src := by
        refine List.ext_getElem? fun j => ?_
        by_cases h : j < src.length
        · rw [hp j h (by omega), List.getElem?_eq_getElem h]
        · rw [List.getElem?_eq_none (by omega), List.getElem?_eq_none (by omega)]
      have hi2 : i = src.length := by omega
      subst hi2
      have := hend dst hl
      rwa [e] at this ⊢
    | succ n ih =>
      intro i dst hi hl hp
      refine hstep dst i (by omega) src hl ?_
      have := ih (i + 1) (dst.set i (src[i]'(by omega))) (by omega) (by rw [List.length_set]; exact hl) (fun j h hj => by
        by_cases e : j = i
        · subst e; rw [List.getElem?_set_self (by omega)]
        · rw [List.getElem?_set_ne (by omega)]; exact hp j h (by omega))
      exact this
  exact key src.length 0 dst (by omega) hd (fun j h hj => by omega)

-- block impl_within
theorem impl_within_ev (m : Int) (l : List Int) (hm : 0 ≤ m) (hm2 : m ≤ 4611686018427387904) (hl : l.length ≤ 4611686018427387904) : Ev (fun k => impl_within.f k m l) (l.all (fun x => decide (-m ≤ x ∧ x ≤ m))) := by
  unfold impl_within.f
  rw [← ite_tf (l.all _), ← all_range_rd]
  have w : wrap64 (-m) = -m := wid (by omega) (by omega)
  refine all_ev' (fun k i => impl_within.l0 k m l l.length i) l.length (fun i => decide (-m ≤ rd l (i : Int) ∧ rd l (i : Int) ≤ m)) true false ?_ ?_ ?_
  · intro i r hi hp hr
    have hp := of_decide_eq_true hp
    refine Ev.step (f := fun k => impl_within.l0 k m l l.length ((i : Int) + 1)) (fun k => ?_) hr
    simp only [impl_within.l0]
    rw [if_pos (by omega), if_pos (by omega), if_pos (by omega), w, if_neg (by omega), if_neg (by omega), wid (by omega) (by omega)]
  · intro i hi hp
    have hp := of_decide_eq_false hp
    refine Ev.step (f := fun _ => some false) (fun k => ?_) (Ev.now _)
    simp only [impl_within.l0]
    rw [if_pos (by omega), if_pos (by omega), if_pos (by omega), w]
    by_cases h : rd l (i : Int) < -m
    · rw [if_pos h]
    · rw [if_neg h, if_pos (by omega)]
  · exact Ev.step (f := fun _ => some true) (fun k => by simp only [impl_within.l0]; rw [if_neg (by omega)]) (Ev.now _)

-- block impl_IsMatrix
theorem impl_determinant_eq {a b c d m : Int} (hm : 0 ≤ m) (hm2 : m ≤ 2000000000) (ha : -m ≤ a ∧ a ≤ m) (hb : -m ≤ b ∧ b ≤ m) (hc : -m ≤ c ∧ c ≤ m) (hd : -m ≤ d ∧ d ≤ m) : impl_determinant.f a b c d = some (a * d - b * c) := by
  have hmm : m * m ≤ 4000000000000000000 := by have := Int.mul_le_mul hm2 hm2 hm (by omega); omega
  obtain ⟨h1, h2⟩ := det_bd hm ha hb hc hd
  unfold impl_determinant.f
  rw [wid (n := a * d) (by omega) (by omega), wid (n := b * c) (by omega) (by omega), wid (by omega) (by omega)]
theorem impl_IsMatrix_ev (a b c d : Int) : Ev (fun k => impl_IsMatrix.f k a b c d) (matB a b c d) := by
  unfold impl_IsMatrix.f matB
  refine Ev.bind (impl_within_ev 1000 [a, b, c, d] (by omega) (by omega) (by simp)) ?_
  rw [show ([a, b, c, d] : List Int).all (fun x => decide (-1000 ≤ x ∧ x ≤ 1000)) = (entB a && (entB b && (entB c && entB d))) from by simp [entB]]
  cases h : (entB a && (entB b && (entB c && entB d))) with
  | false => simp only [Bool.false_eq_true, if_false, Bool.false_and]; exact Ev.now _
  | true =>
    simp only [Bool.and_eq_true] at h
    simp only [if_true, Bool.true_and]
    refine Ev.bindv (impl_determinant_eq (m := 1000) (by omega) (by omega) ⟨ent_lo h.1, ent_hi h.1⟩ ⟨ent_lo h.2.1, ent_hi h.2.1⟩ ⟨ent_lo h.2.2.1, ent_hi h.2.2.1⟩ ⟨ent_lo h.2.2.2, ent_hi h.2.2.2⟩) ?_
    exact Ev.now _

-- block impl_reduced
theorem impl_reduced_l {a b c d y : Int} (ha : bd62 a) (hb : bd62 b) (hc : bd62 c) (hd : bd62 d) (hy : y ≠ 0) :
    Ev (fun k => impl_reduced.l0 k y 0 a b c d) (Int.tdiv a y, Int.tdiv b y, Int.tdiv c y, Int.tdiv d y, matB (Int.tdiv a y) (Int.tdiv b y) (Int.tdiv c y) (Int.tdiv d y)) := by
  have w0 : wrap64 1 = 1 := wid (by omega) (by omega)
  have w1 : wrap64 2 = 2 := wid (by omega) (by omega)
  have wx : ∀ x, bd62 x → wrap64 (Int.tdiv x y) = Int.tdiv x y := fun x hx => by have := tdiv_bd y hx; exact wid (by omega) (by omega)
  refine Ev.step (f := fun k => impl_reduced.l1 k y 0 0 0 a b c d) (fun k => by simp [impl_reduced.l0]) ?_
  refine Ev.step (f := fun k => impl_reduced.l1 k y 0 0 1 (Int.tdiv a y) b c d) (fun k => by simp [impl_reduced.l1, hy, w0, wx a ha]) ?_
  refine Ev.step (f := fun k => impl_reduced.l1 k y 0 0 2 (Int.tdiv a y) (Int.tdiv b y) c d) (fun k => by simp [impl_reduced.l1, hy, w1, wx b hb]) ?_
  refine Ev.step (f := fun k => impl_reduced.l0 k y 1 (Int.tdiv a y) (Int.tdiv b y) c d) (fun k => by simp [impl_reduced.l1, w0]) ?_
  refine Ev.step (f := fun k => impl_reduced.l1 k y 1 1 0 (Int.tdiv a y) (Int.tdiv b y) c d) (fun k => by simp [impl_reduced.l0]) ?_
  refine Ev.step (f := fun k => impl_reduced.l1 k y 1 1 1 (Int.tdiv a y) (Int.tdiv b y) (Int.tdiv c y) d) (fun k => by simp [impl_reduced.l1, hy, w0, wx c hc]) ?_
  refine Ev.step (f := fun k => impl_reduced.l1 k y 1 1 2 (Int.tdiv a y) (Int.tdiv b y) (Int.tdiv c y) (Int.tdiv d y)) (fun k => by simp [impl_reduced.l1, hy, w1, wx d hd]) ?_
  refine Ev.step (f := fun k => impl_reduced.l0 k y 2 (Int.tdiv a y) (Int.tdiv b y) (Int.tdiv c y) (Int.tdiv d y)) (fun k => by simp [impl_reduced.l1, w1]) ?_
  refine Ev.step (f := fun k => (impl_IsMatrix.f k (Int.tdiv a y) (Int.tdiv b y) (Int.tdiv c y) (Int.tdiv d y)).bind fun t => some (Int.tdiv a y, Int.tdiv b y, Int.tdiv c y, Int.tdiv d y, t)) (fun k => by simp [impl_reduced.l0]) ?_
  exact Ev.bind (impl_IsMatrix_ev _ _ _ _) (Ev.now _)
theorem impl_reduced_ev {a b c d : Int} (ha : bd62 a) (hb : bd62 b) (hc : bd62 c) (hd : bd62 d) (hne : a ≠ 0 ∨ b ≠ 0) :
    Ev (fun k => impl_reduced.f k a b c d) (rM a b c d a, rM a b c d b, rM a b c d c, rM a b c d d, matB (rM a b c d a) (rM a b c d b) (rM a b c d c) (rM a b c d d)) := by
  have k1 := gcd_le ha hb
  have k2 := gcd_le hc hd
  have k3 : g4 a b c d ≤ 4611686018427387904 := gcd_le (a := Int.gcd a b) (b := Int.gcd c d) (by omega) (by omega)
  have k0 := g4_nonneg a b c d
  have hy := byM_ne c d hne
  have main := impl_reduced_l ha hb hc hd hy
  unfold bd62 at ha hb hc hd
  unfold impl_reduced.f
  refine Ev.bind (impl_gcd_ev a b (by omega) (by omega) (by omega) (by omega)) (Ev.bind (impl_gcd_ev c d (by omega) (by omega) (by omega) (by omega)) (Ev.bind (impl_gcd_ev _ _ (by omega) (by omega) (by omega) (by omega)) ?_))
  have neg : sg a b = -1 → Ev (fun k => impl_reduced.j0 k (g4 a b c d) true a b c d) (rM a b c d a, rM a b c d b, rM a b c d c, rM a b c d d, matB (rM a b c d a) (rM a b c d b) (rM a b c d c) (rM a b c d d)) := by
    intro e
    refine Ev.step (f := fun k => impl_reduced.j1 k (wrap64 (-(g4 a b c d))) a b c d) (fun k => by simp [impl_reduced.j0]) ?_
    refine Ev.step (f := fun k => impl_reduced.l0 k (wrap64 (-(g4 a b c d))) 0 a b c d) (fun k => by simp [impl_reduced.j1]) ?_
    rw [wid (n := -(g4 a b c d)) (by omega) (by omega), show -(g4 a b c d) = byM a b c d from by unfold byM; rw [e]; omega]
    exact main
  have pos : sg a b = 1 → Ev (fun k => impl_reduced.j0 k (g4 a b c d) false a b c d) (rM a b c d a, rM a b c d b, rM a b c d c, rM a b c d d, matB (rM a b c d a) (rM a b c d b) (rM a b c d c) (rM a b c d d)) := by
    intro e
    refine Ev.step (f := fun k => impl_reduced.j1 k (g4 a b c d) a b c d) (fun k => by simp [impl_reduced.j0]) ?_
    refine Ev.step (f := fun k => impl_reduced.l0 k (g4 a b c d) 0 a b c d) (fun k => by simp [impl_reduced.j1]) ?_
    rw [show g4 a b c d = byM a b c d from by unfold byM; rw [e]; omega]
    exact main
  by_cases h1 : a < 0
  · simp only [if_pos h1]; exact neg (by unfold sg; rw [if_pos (.inl h1)])
  · simp only [if_neg h1]
    by_cases h2 : a = 0
    · simp only [if_pos h2]
      by_cases h3 : b < 0
      · rw [decide_eq_true h3]; exact neg (by unfold sg; rw [if_pos (.inr ⟨h2, h3⟩)])
      · rw [decide_eq_false h3]; exact pos (by unfold sg; rw [if_neg (by omega)])
    · simp only [if_neg h2]; exact pos (by unfold sg; rw [if_neg (by omega)])

-- block power
/-- What a power loop makes of an int64: n factors p, each product wrapped. -/
def powW (p : Int) : Nat → Int → Int
  | 0, acc => acc
  | n + 1, acc => powW p n (wrap64 (acc * p))

-- block prime
def primeB (p : Int) : Bool := p == 2 || (p == 3 || (p == 5 || p == 7))
theorem prime_cases {p : Int} (h : primeB p = true) : p = 2 ∨ p = 3 ∨ p = 5 ∨ p = 7 := by
  simpa [primeB] using h
theorem prime_lo {p : Int} (h : primeB p = true) : 2 ≤ p := by rcases prime_cases h with h | h | h | h <;> omega
theorem prime_hi {p : Int} (h : primeB p = true) : p ≤ 7 := by rcases prime_cases h with h | h | h | h <;> omega

-- block powp
theorem ipow_pos {p : Int} (hp : 1 ≤ p) (n : Nat) : (1 : Int) ≤ p ^ n := by
  have := Int.pow_pos (n := p) (m := n) (by omega)
  omega
theorem ipow_mono {p : Int} (hp : 1 ≤ p) {m n : Nat} (h : m ≤ n) : p ^ m ≤ p ^ n := by
  obtain ⟨d, rfl⟩ : ∃ d, n = m + d := ⟨n - m, by omega⟩
  rw [Int.pow_add]
  have h1 := ipow_pos hp m
  have h2 := ipow_pos hp d
  have := Int.mul_le_mul_of_nonneg_left h2 (show 0 ≤ p ^ m by omega)
  rwa [Int.mul_one] at this
theorem powW_fit (p : Int) (hp : 1 ≤ p) (n : Nat) : ∀ (acc : Int), 0 ≤ acc → acc * p ^ n ≤ 9223372036854775807 → powW p n acc = acc * p ^ n := by
  induction n with
  | zero => intro acc _ _; simp [powW]
  | succ n ih =>
    intro acc h0 h
    have hpn : (1 : Int) ≤ p ^ n := ipow_pos hp n
    have e : acc * p ^ (n + 1) = acc * p * p ^ n := by rw [Int.pow_succ, Int.mul_comm (p ^ n) p, ← Int.mul_assoc]
    have h1 : 0 ≤ acc * p := Int.mul_nonneg h0 (by omega)
    have h2 : acc * p ≤ acc * p * p ^ n := by
      have := Int.mul_le_mul_of_nonneg_left hpn h1
      rwa [Int.mul_one] at this
    simp only [powW]
    rw [wid (by omega) (by omega), ih _ h1 (by omega), e]
theorem pow_le_top {p : Int} (h : primeB p = true) (n : Nat) (hn : n ≤ 22) : p ^ n ≤ 9223372036854775807 := by
  have hp := prime_lo h
  have h1 : p ^ n ≤ p ^ 22 := ipow_mono (by omega) hn
  have h2 : p ^ 22 ≤ 9223372036854775807 := by
    rcases prime_cases h with rfl | rfl | rfl | rfl <;> decide
  omega
theorem powW_prime {p : Int} (h : primeB p = true) (n : Nat) (hn : n ≤ 22) : powW p n 1 = p ^ n := by
  have hp := prime_lo h
  rw [powW_fit p (by omega) n 1 (by omega) (by rw [Int.one_mul]; exact pow_le_top h n hn), Int.one_mul]

-- block ball
/-- What both texts take for a ball: its three numbers. -/
def ballB (p L T D : Int) : Bool :=
  primeB p && (decide (-6 ≤ L ∧ L ≤ 6) && (decide (0 ≤ D ∧ D ≤ 6) && (if L + D ≤ 0 then T == 0 && D == 0 else decide (0 ≤ T ∧ T < p ^ (L + D).toNat) && (D == 0 || !(Int.tmod T p == 0)))))

-- block val
/-- How many factors p a number other than 0 has. -/
def valF (p : Int) : Nat → Int → Nat
  | 0, _ => 0
  | f + 1, n => if n % p = 0 then valF p f (n / p) + 1 else 0
def val (p n : Int) : Nat := valF p n.natAbs n
theorem valF_spec {p : Int} (hp : 2 ≤ p) (f : Nat) : ∀ n : Int, n ≠ 0 → n.natAbs ≤ f → ∃ u, n = p ^ (valF p f n) * u ∧ ¬ p ∣ u := by
  induction f with
  | zero => intro n h0 hf; omega
  | succ f ih =>
    intro n h0 hf
    unfold valF
    by_cases h : n % p = 0
    · rw [if_pos h]
      obtain ⟨q, hq⟩ := Int.dvd_of_emod_eq_zero h
      have hq0 : q ≠ 0 := by intro e; subst e; simp at hq; exact h0 hq
      have hdiv : n / p = q := by rw [hq]; exact Int.mul_ediv_cancel_left q (by omega)
      rw [hdiv]
      have hlt : q.natAbs ≤ f := by
        have : n.natAbs = p.natAbs * q.natAbs := by rw [hq, Int.natAbs_mul]
        have h2 : 2 * q.natAbs ≤ p.natAbs * q.natAbs := Nat.mul_le_mul_right _ (by omega)
        omega
      obtain ⟨u, hu, hn⟩ := ih q hq0 hlt
      refine ⟨u, ?_, hn⟩
      conv => lhs; rw [hq, hu]
      rw [Int.pow_succ', Int.mul_assoc]
    · rw [if_neg h]
      exact ⟨n, by simp, fun hd => h (Int.emod_eq_zero_of_dvd hd)⟩
theorem val_spec {p n : Int} (hp : 2 ≤ p) (h : n ≠ 0) : ∃ u, n = p ^ (val p n) * u ∧ ¬ p ∣ u := valF_spec hp _ n h (Nat.le_refl _)
theorem pow_unique {p u u' : Int} (hp : 2 ≤ p) (hu : ¬ p ∣ u) (hu' : ¬ p ∣ u') : ∀ (v v' : Nat), p ^ v * u = p ^ v' * u' → v = v' := by
  have key : ∀ (v d : Nat) (x x' : Int), ¬ p ∣ x → p ^ v * x = p ^ (v + (d + 1)) * x' → False := by
    intro v d x x' hx h
    rw [Int.pow_add, Int.mul_assoc] at h
    have h2 : x = p ^ (d + 1) * x' := Int.eq_of_mul_eq_mul_left (Int.pow_ne_zero (by omega)) h
    apply hx
    rw [h2, Int.pow_succ', Int.mul_assoc]
    exact Int.dvd_mul_right _ _
  intro v v' h
  rcases Nat.lt_trichotomy v v' with h1 | h1 | h1
  · obtain ⟨d, rfl⟩ : ∃ d, v' = v + (d + 1) := ⟨v' - v - 1, by omega⟩
    exact (key v d u u' hu h).elim
  · exact h1
  · obtain ⟨d, rfl⟩ : ∃ d, v = v' + (d + 1) := ⟨v - v' - 1, by omega⟩
    exact (key v' d u' u hu' h.symm).elim
theorem val_eq {p n u : Int} {v : Nat} (hp : 2 ≤ p) (h : n = p ^ v * u) (hu : ¬ p ∣ u) : val p n = v := by
  have hn : n ≠ 0 := by
    intro e; rw [e] at h
    rcases Int.mul_eq_zero.1 h.symm with h | h
    · exact Int.pow_ne_zero (by omega) h
    · exact hu (by rw [h]; exact Int.dvd_zero p)
  obtain ⟨u', h', hu'⟩ := val_spec hp hn
  exact pow_unique hp hu' hu _ _ (h'.symm.trans h)
theorem val_pow_mul {p e : Int} (j : Nat) (hp : 2 ≤ p) (he : e ≠ 0) : val p (p ^ j * e) = j + val p e := by
  obtain ⟨u, h, hu⟩ := val_spec hp he
  refine val_eq hp (u := u) ?_ hu
  conv => lhs; rw [h]
  rw [Int.pow_add, Int.mul_assoc]
theorem val_dvd {p n : Int} (hp : 2 ≤ p) (h : n ≠ 0) (j : Nat) : p ^ j ∣ n ↔ j ≤ val p n := by
  obtain ⟨u, hu, hn⟩ := val_spec hp h
  constructor
  · rintro ⟨q, hq⟩
    rcases Nat.lt_or_ge (val p n) j with h1 | h1
    · exfalso
      obtain ⟨d, hd⟩ : ∃ d, j = val p n + (d + 1) := ⟨j - val p n - 1, by omega⟩
      have h2 : p ^ (val p n) * u = p ^ (val p n) * (p ^ (d + 1) * q) := by
        have e : n = p ^ (val p n) * (p ^ (d + 1) * q) := by rw [← Int.mul_assoc, ← Int.pow_add, ← hd]; exact hq
        exact hu.symm.trans e
      have h3 := Int.eq_of_mul_eq_mul_left (Int.pow_ne_zero (by omega)) h2
      apply hn
      rw [h3, Int.pow_succ', Int.mul_assoc]
      exact Int.dvd_mul_right _ _
    · exact h1
  · intro h1
    obtain ⟨d, hd⟩ : ∃ d, val p n = j + d := ⟨val p n - j, by omega⟩
    refine ⟨p ^ d * u, ?_⟩
    conv => lhs; rw [hu, hd, Int.pow_add, Int.mul_assoc]
theorem val_le_of_lt {p n : Int} (hp : 2 ≤ p) (h : n ≠ 0) (j : Nat) (hlt : n.natAbs < 2 ^ j) : val p n < j := by
  rcases Nat.lt_or_ge (val p n) j with h1 | h1
  · exact h1
  · exfalso
    obtain ⟨q, hq⟩ := (val_dvd hp h j).2 h1
    have hq0 : q ≠ 0 := by intro e; subst e; simp at hq; exact h hq
    have : n.natAbs = p.natAbs ^ j * q.natAbs := by rw [hq, Int.natAbs_mul, Int.natAbs_pow]
    have h2 : 2 ^ j ≤ p.natAbs ^ j := Nat.pow_le_pow_left (by omega) j
    have h3 : p.natAbs ^ j * 1 ≤ p.natAbs ^ j * q.natAbs := Nat.mul_le_mul_left _ (by omega)
    omega
theorem tdiv_bdv {x M : Int} (g : Int) (hx : -M ≤ x ∧ x ≤ M) : -M ≤ Int.tdiv x g ∧ Int.tdiv x g ≤ M := by
  have := Int.natAbs_tdiv_le_natAbs x g
  omega

-- block powlem
theorem pow_13 {p : Int} (hp : primeB p = true) (n : Nat) (h : n ≤ 12) : p ^ n ≤ 13841287201 := by
  have hp2 := prime_lo hp
  have h1 : p ^ n ≤ p ^ 12 := ipow_mono (by omega) h
  have h2 : p ^ 12 ≤ 13841287201 := by rcases prime_cases hp with rfl | rfl | rfl | rfl <;> decide
  omega
theorem pow_6 {p : Int} (hp : primeB p = true) (n : Nat) (h : n ≤ 6) : p ^ n ≤ 117649 := by
  have hp2 := prime_lo hp
  have h1 : p ^ n ≤ p ^ 6 := ipow_mono (by omega) h
  have h2 : p ^ 6 ≤ 117649 := by rcases prime_cases hp with rfl | rfl | rfl | rfl <;> decide
  omega

-- block markM
/-! A ball by its level and its mark: the centre times p to the sixth, modulo p to the level + 6. -/
def markOf (p T D : Int) : Int := T * p ^ (6 - D).toNat
def ofM (p L X : Int) : Int × Int × Int :=
  let x := X % p ^ (L + 6).toNat
  let dn : Int := if x = 0 then 0 else if (val p x : Int) < 6 then 6 - val p x else 0
  (L, x / p ^ (6 - dn).toNat, dn)
theorem ofM_of {p L X T D : Int} (hp : 2 ≤ p) (hx : X % p ^ (L + 6).toNat = T * p ^ (6 - D).toNat) (hD : 0 ≤ D ∧ D ≤ 6) (hu : D = 0 ∨ ¬ p ∣ T) : ofM p L X = (L, T, D) := by
  unfold ofM
  simp only [hx]
  have hpow : ∀ j : Nat, p ^ j ≠ 0 := fun j => Int.pow_ne_zero (by omega)
  by_cases h0 : T * p ^ (6 - D).toNat = 0
  · have hT : T = 0 := by
      rcases Int.mul_eq_zero.1 h0 with h | h
      · exact h
      · exact absurd h (hpow _)
    have hD0 : D = 0 := by
      rcases hu with h | h
      · exact h
      · exact absurd (by rw [hT]; exact Int.dvd_zero p) h
    subst hT; subst hD0
    simp
  · rw [if_neg h0]
    have hT : T ≠ 0 := by intro e; rw [e] at h0; simp at h0
    have hv : val p (T * p ^ (6 - D).toNat) = (6 - D).toNat + val p T := by rw [Int.mul_comm]; exact val_pow_mul _ hp hT
    have hdn : (if ((val p (T * p ^ (6 - D).toNat) : Nat) : Int) < 6 then 6 - ((val p (T * p ^ (6 - D).toNat) : Nat) : Int) else 0) = D := by
      rw [hv]
      rcases hu with h | h
      · rw [if_neg (by omega)]; exact h.symm
      · have : val p T = 0 := val_eq hp (u := T) (by simp) h
        rw [this]
        by_cases hd : D = 0
        · rw [if_neg (by omega)]; exact hd.symm
        · rw [if_pos (by omega)]; omega
    rw [hdn, Int.mul_ediv_cancel _ (hpow _)]
theorem ofM_mod (p L X : Int) : ofM p L (X % p ^ (L + 6).toNat) = ofM p L X := by unfold ofM; simp only [Int.emod_emod]
theorem ofM_back {p L X : Int} (hp : 2 ≤ p) : (ofM p L X).2.1 * p ^ (6 - (ofM p L X).2.2).toNat = X % p ^ (L + 6).toNat ∧ (0 ≤ (ofM p L X).2.2 ∧ (ofM p L X).2.2 ≤ 6) ∧ ((ofM p L X).2.2 = 0 ∨ ¬ p ∣ (ofM p L X).2.1) := by
  unfold ofM
  simp only
  generalize hx : X % p ^ (L + 6).toNat = x
  by_cases h0 : x = 0
  · rw [if_pos h0]; simp [h0]
  · rw [if_neg h0]
    obtain ⟨u, hu, hn⟩ := val_spec hp h0
    have hpow : ∀ j : Nat, p ^ j ≠ 0 := fun j => Int.pow_ne_zero (by omega)
    by_cases hv : ((val p x : Nat) : Int) < 6
    · rw [if_pos hv]
      have e : (6 - (6 - ((val p x : Nat) : Int))).toNat = val p x := by omega
      rw [e]
      have hq : x / p ^ val p x = u := by
        conv => lhs; lhs; rw [hu]
        exact Int.mul_ediv_cancel_left _ (hpow _)
      rw [hq]
      refine ⟨?_, by omega, .inr hn⟩
      rw [Int.mul_comm]; exact hu.symm
    · rw [if_neg hv]
      refine ⟨?_, by omega, .inl rfl⟩
      have hd : p ^ (6 - (0 : Int)).toNat ∣ x := (val_dvd hp h0 _).2 (by omega)
      exact Int.ediv_mul_cancel hd
theorem ofM_inj {p L X Y : Int} (hp : 2 ≤ p) : ofM p L X = ofM p L Y ↔ X % p ^ (L + 6).toNat = Y % p ^ (L + 6).toNat := by
  constructor
  · intro h
    rw [← (ofM_back (X := X) hp).1, ← (ofM_back (X := Y) hp).1, h]
  · intro h
    rw [← ofM_mod p L X, h, ofM_mod]
theorem ball_parts {p L T D : Int} (h : ballB p L T D = true) : primeB p = true ∧ (-6 ≤ L ∧ L ≤ 6) ∧ (0 ≤ D ∧ D ≤ 6) ∧ (L + D ≤ 0 → T = 0 ∧ D = 0) ∧ (0 < L + D → (0 ≤ T ∧ T < p ^ (L + D).toNat) ∧ (D = 0 ∨ ¬ p ∣ T)) := by
  unfold ballB at h
  simp only [Bool.and_eq_true, decide_eq_true_eq] at h
  obtain ⟨h1, h2, h3, h4⟩ := h
  refine ⟨h1, h2, h3, ?_, ?_⟩
  · intro hn; rw [if_pos hn] at h4; simpa using h4
  · intro hn
    rw [if_neg (by omega)] at h4
    simp only [Bool.and_eq_true, decide_eq_true_eq, Bool.or_eq_true, beq_iff_eq, Bool.not_eq_true', beq_eq_false_iff_ne] at h4
    refine ⟨h4.1, ?_⟩
    rcases h4.2 with h5 | h5
    · exact .inl h5
    · exact .inr (fun hd => h5 (Int.tmod_eq_zero_of_dvd hd))
/-- The mark of a ball: at least 0, less than p to the level + 6; the ball comes back from it. -/
theorem mark_lt {p L T D : Int} (h : ballB p L T D = true) : 0 ≤ markOf p T D ∧ markOf p T D < p ^ (L + 6).toNat := by
  obtain ⟨hp, hL, hD, h0, h1⟩ := ball_parts h
  have hp2 := prime_lo hp
  unfold markOf
  by_cases hn : L + D ≤ 0
  · rw [(h0 hn).1]
    have := ipow_pos (p := p) (by omega) (L + 6).toNat
    omega
  · obtain ⟨⟨a, b⟩, _⟩ := h1 (by omega)
    have hq := ipow_pos (p := p) (by omega) (6 - D).toNat
    refine ⟨Int.mul_nonneg a (by omega), ?_⟩
    have e : p ^ (L + 6).toNat = p ^ (L + D).toNat * p ^ (6 - D).toNat := by rw [← Int.pow_add]; congr 1; omega
    rw [e]
    exact Int.mul_lt_mul_of_pos_right b (by omega)
theorem mark_mod {p L T D : Int} (h : ballB p L T D = true) : markOf p T D % p ^ (L + 6).toNat = markOf p T D := Int.emod_eq_of_lt (mark_lt h).1 (mark_lt h).2
theorem ball_unit {p L T D : Int} (h : ballB p L T D = true) : D = 0 ∨ ¬ p ∣ T := by
  obtain ⟨_, _, _, h0, h1⟩ := ball_parts h
  by_cases hn : L + D ≤ 0
  · exact .inl (h0 hn).2
  · exact (h1 (by omega)).2
theorem ofM_mark {p L T D : Int} (h : ballB p L T D = true) : ofM p L (markOf p T D) = (L, T, D) :=
  ofM_of (prime_lo (ball_parts h).1) (mark_mod h) (ball_parts h).2.2.1 (ball_unit h)
/-- What is made of a mark is a ball. -/
theorem ofM_ball {p L X : Int} (hp : primeB p = true) (hL : -6 ≤ L ∧ L ≤ 6) : ballB p L (ofM p L X).2.1 (ofM p L X).2.2 = true := by
  have hp2 := prime_lo hp
  obtain ⟨hx, hD, hu⟩ := ofM_back (p := p) (L := L) (X := X) hp2
  have hpos := ipow_pos (p := p) (by omega) (L + 6).toNat
  have hx0 := Int.emod_nonneg X (show p ^ (L + 6).toNat ≠ 0 by omega)
  have hx1 := Int.emod_lt_of_pos X (show 0 < p ^ (L + 6).toNat by omega)
  generalize (ofM p L X).2.1 = T at *
  generalize (ofM p L X).2.2 = D at *
  have hq := ipow_pos (p := p) (by omega) (6 - D).toNat
  rw [← hx] at hx0 hx1
  have hT0 : 0 ≤ T := by
    rcases Int.lt_or_le T 0 with h | h
    · have := Int.mul_neg_of_neg_of_pos h (show 0 < p ^ (6 - D).toNat by omega); omega
    · exact h
  unfold ballB
  rw [hp, decide_eq_true hL, decide_eq_true hD, Bool.true_and, Bool.true_and, Bool.true_and]
  by_cases hn : L + D ≤ 0
  · rw [if_pos hn]
    have hT : T = 0 := by
      rcases Int.lt_or_eq_of_le hT0 with h | h
      · exfalso
        have e : p ^ (6 - D).toNat = p ^ (L + 6).toNat * p ^ (-(L + D)).toNat := by rw [← Int.pow_add]; congr 1; omega
        have h2 := ipow_pos (p := p) (by omega) (-(L + D)).toNat
        have h3 : p ^ (L + 6).toNat * 1 ≤ p ^ (L + 6).toNat * p ^ (-(L + D)).toNat := Int.mul_le_mul_of_nonneg_left (by omega) (by omega)
        have h4 : 1 * p ^ (6 - D).toNat ≤ T * p ^ (6 - D).toNat := Int.mul_le_mul_of_nonneg_right (by omega) (by omega)
        omega
      · exact h.symm
    have hD0 : D = 0 := by
      rcases hu with h | h
      · exact h
      · exact absurd (by rw [hT]; exact Int.dvd_zero p) h
    simp [hT, hD0]
  · rw [if_neg hn]
    have hlt : T < p ^ (L + D).toNat := by
      have e : p ^ (L + 6).toNat = p ^ (L + D).toNat * p ^ (6 - D).toNat := by rw [← Int.pow_add]; congr 1; omega
      rw [e] at hx1
      exact Int.lt_of_mul_lt_mul_right hx1 (by omega)
    rw [decide_eq_true (show 0 ≤ T ∧ T < p ^ (L + D).toNat from ⟨hT0, hlt⟩), Bool.true_and]
    rcases hu with h | h
    · simp [h]
    · have : (Int.tmod T p == 0) = false := beq_eq_false_iff_ne.2 (fun e => h (Int.dvd_of_tmod_eq_zero e))
      simp [this]
theorem ball_num {p L T D : Int} (h : ballB p L T D = true) : 0 ≤ T ∧ T ≤ 13841287201 := by
  obtain ⟨hp, hL, hD, h0, h1⟩ := ball_parts h
  have hp2 := prime_lo hp
  by_cases hn : L + D ≤ 0
  · rw [(h0 hn).1]; omega
  · have := (h1 (by omega)).1
    have := pow_13 hp (L + D).toNat (by omega)
    omega

-- block spec_l01Gcd
theorem spec_l01Gcd_l (n : Nat) : ∀ (a b : Int), b.natAbs < n → -9223372036854775807 ≤ a → a ≤ 9223372036854775807 → -9223372036854775807 ≤ b → b ≤ 9223372036854775807 → Ev (fun k => spec_l01Gcd.l0 k a b) (Int.gcd a b : Int) := by
  induction n with
  | zero => intro a b h; omega
  | succ n ih =>
    intro a b hn ha1 ha2 hb1 hb2
    by_cases hb : b = 0
    · subst hb
      refine Ev.step (f := fun _ => some (mx a (wrap64 (-a)))) (fun k => by simp only [spec_l01Gcd.l0, if_true]) ?_
      rw [mx_abs a ha1 ha2, Int.gcd_zero_right]; exact Ev.now _
    · have hlt : (Int.tmod a b).natAbs < b.natAbs := by rw [Int.natAbs_tmod]; exact Nat.mod_lt _ (by omega)
      refine Ev.step (f := fun k => spec_l01Gcd.l0 k b (Int.tmod a b)) (fun k => by simp only [spec_l01Gcd.l0]; rw [if_neg hb]) ?_
      rw [← gcd_step a b hb]
      exact ih _ _ (by omega) hb1 hb2 (by omega) (by omega)
theorem spec_l01Gcd_ev (a b : Int) (ha1 : -9223372036854775807 ≤ a) (ha2 : a ≤ 9223372036854775807) (hb1 : -9223372036854775807 ≤ b) (hb2 : b ≤ 9223372036854775807) : Ev (fun k => spec_l01Gcd.f k a b) (Int.gcd a b : Int) := by
  unfold spec_l01Gcd.f
  exact spec_l01Gcd_l (b.natAbs + 1) a b (by omega) ha1 ha2 hb1 hb2

-- block In
theorem In_eq (a b c : Int) : spec_l01In.f a b c = some (decide (b ≤ a ∧ a ≤ c)) := by
  unfold spec_l01In.f
  by_cases h : a ≥ b
  · rw [if_pos h]; congr 1; exact decide_eq_decide.2 ⟨fun h2 => ⟨h, h2⟩, fun h2 => h2.2⟩
  · rw [if_neg h]; congr 1; exact (decide_eq_false (fun h2 => h h2.1)).symm

-- block spec_l01Power
theorem spec_l01Power_l (p : Int) (n : Nat) : ∀ (x acc : Int), (n : Int) ≤ 9223372036854775807 → (x = n ∨ (n = 0 ∧ x ≤ 0)) → Ev (fun k => spec_l01Power.l0 k p x acc) (powW p n acc) := by
  induction n with
  | zero =>
    intro x acc _ hx
    exact Ev.step (f := fun _ => some acc) (fun k => by simp only [spec_l01Power.l0]; rw [if_neg (by omega)]) (Ev.now _)
  | succ n ih =>
    intro x acc hn hx
    have hx' : x = n + 1 := by omega
    exact Ev.step (f := fun k => spec_l01Power.l0 k p n (wrap64 (acc * p))) (fun k => by
      simp only [spec_l01Power.l0]; rw [if_pos (by omega), show wrap64 (x - 1) = (n : Int) from by rw [hx', wid (by omega) (by omega)]; omega]) (ih n _ (by omega) (.inl rfl))
theorem spec_l01Power_ev (p x : Int) (h : x ≤ 9223372036854775807) : Ev (fun k => spec_l01Power.f k p x) (powW p x.toNat 1) := by
  refine Ev.congr (f := fun k => spec_l01Power.l0 k p x 1) (fun k => rfl) (spec_l01Power_l p x.toNat x 1 (by omega) (by omega))

-- block impl_power
theorem impl_power_l (p N : Int) (hN : N ≤ 9223372036854775807) (n : Nat) : ∀ (acc i : Int), 0 ≤ i → (i + n = N ∨ (n = 0 ∧ N ≤ i)) → Ev (fun k => impl_power.l0 k p acc N i) (powW p n acc) := by
  induction n with
  | zero =>
    intro acc i hi hx
    exact Ev.step (f := fun _ => some acc) (fun k => by simp only [impl_power.l0]; rw [if_neg (by omega)]) (Ev.now _)
  | succ n ih =>
    intro acc i hi hx
    exact Ev.step (f := fun k => impl_power.l0 k p (wrap64 (acc * p)) N (i + 1)) (fun k => by
      simp only [impl_power.l0]; rw [if_pos (by omega), show wrap64 (i + 1) = i + 1 from wid (by omega) (by omega)]) (ih _ (i + 1) (by omega) (by omega))
theorem impl_power_ev (p x : Int) (h : x ≤ 9223372036854775807) : Ev (fun k => impl_power.f k p x) (powW p x.toNat 1) := by
  refine Ev.congr (f := fun k => impl_power.l0 k p 1 x 0) (fun k => rfl) (impl_power_l p x h x.toNat 1 0 (by omega) (by omega))

-- block measUp
theorem Ev.up {α : Type} {g : Nat → Option α} {r : α} (h : Ev (fun k => g (k + 1)) r) : Ev g r := Ev.step (f := fun k => g (k + 1)) (fun _ => rfl) h

-- block paired
/-! The matrix that moves the outside of one ball onto another: what it is in whole numbers. -/
theorem pow_b {p : Int} (hp : primeB p = true) (n : Nat) (h : n ≤ 22 ∨ (n ≤ 23 ∧ p ≠ 7)) : p ^ n ≤ 3909821048582988049 := by
  rcases prime_cases hp with e | e | e | e
  · have h1 : p ^ n ≤ p ^ 23 := ipow_mono (by omega) (by omega)
    have h2 : p ^ 23 ≤ 3909821048582988049 := by subst e; decide
    omega
  · have h1 : p ^ n ≤ p ^ 23 := ipow_mono (by omega) (by omega)
    have h2 : p ^ 23 ≤ 3909821048582988049 := by subst e; decide
    omega
  · have h1 : p ^ n ≤ p ^ 23 := ipow_mono (by omega) (by omega)
    have h2 : p ^ 23 ≤ 3909821048582988049 := by subst e; decide
    omega
  · have h1 : p ^ n ≤ p ^ 22 := ipow_mono (by omega) (by omega)
    have h2 : p ^ 22 ≤ 3909821048582988049 := by subst e; decide
    omega
theorem cop {p : Int} (hp : primeB p = true) {g : Int} (h : ¬ p ∣ g) : Int.gcd g p = 1 := by
  have h1 : (Int.gcd g p : Int) ∣ g := Int.gcd_dvd_left g p
  have h2 : (Int.gcd g p : Int) ∣ p := Int.gcd_dvd_right g p
  generalize Int.gcd g p = n at h1 h2
  rcases prime_cases hp with e | e | e | e <;> subst e
  · have h3 : n ∣ 2 := Int.natCast_dvd_natCast.1 h2
    have : ∀ n, n < 3 → n ∣ 2 → n = 1 ∨ n = 2 := by decide
    rcases this n (by have := Nat.le_of_dvd (by omega) h3; omega) h3 with h4 | h4
    · exact h4
    · subst h4; exact absurd h1 h
  · have h3 : n ∣ 3 := Int.natCast_dvd_natCast.1 h2
    have : ∀ n, n < 4 → n ∣ 3 → n = 1 ∨ n = 3 := by decide
    rcases this n (by have := Nat.le_of_dvd (by omega) h3; omega) h3 with h4 | h4
    · exact h4
    · subst h4; exact absurd h1 h
  · have h3 : n ∣ 5 := Int.natCast_dvd_natCast.1 h2
    have : ∀ n, n < 6 → n ∣ 5 → n = 1 ∨ n = 5 := by decide
    rcases this n (by have := Nat.le_of_dvd (by omega) h3; omega) h3 with h4 | h4
    · exact h4
    · subst h4; exact absurd h1 h
  · have h3 : n ∣ 7 := Int.natCast_dvd_natCast.1 h2
    have : ∀ n, n < 8 → n ∣ 7 → n = 1 ∨ n = 7 := by decide
    rcases this n (by have := Nat.le_of_dvd (by omega) h3; omega) h3 with h4 | h4
    · exact h4
    · subst h4; exact absurd h1 h
/-- What divides a power of p and is not divided by p is a unit. -/
theorem unit_of {p : Int} (hp : primeB p = true) {g : Int} (h0 : 0 ≤ g) (h : ¬ p ∣ g) (j : Nat) (hj : g ∣ p ^ j) : g = 1 := by
  induction j with
  | zero =>
    rw [Int.pow_zero] at hj
    have := Int.eq_one_of_dvd_one h0 hj
    exact this
  | succ j ih =>
    rw [Int.pow_succ] at hj
    have hk : g.natAbs ∣ (p ^ j).natAbs * p.natAbs := by rw [← Int.natAbs_mul]; exact Int.natAbs_dvd_natAbs.2 hj
    exact ih (Int.natAbs_dvd_natAbs.1 (Nat.Coprime.dvd_of_dvd_mul_right (show Nat.Coprime g.natAbs p.natAbs from cop hp h) hk))
theorem g4_one {p : Int} (hp : primeB p = true) {a b d : Int} (j : Nat) (h : j = 0 ∨ ¬ p ∣ a ∨ ¬ p ∣ b ∨ ¬ p ∣ d) : g4 a b (p ^ j) d = 1 := by
  obtain ⟨h1, h2, h3, h4⟩ := g4_dvd a b (p ^ j) d
  have h0 := g4_nonneg a b (p ^ j) d
  rcases h with h | h
  · subst h
    exact Int.eq_one_of_dvd_one h0 (Int.dvd_trans h3 (by rw [Int.pow_zero]; exact Int.dvd_refl 1))
  · refine unit_of hp h0 (fun hd => ?_) j h3
    rcases h with h | h | h
    · exact h (Int.dvd_trans hd h1)
    · exact h (Int.dvd_trans hd h2)
    · exact h (Int.dvd_trans hd h4)
/-- Entries without a common part fit only if each does. -/
theorem fit_one {a b c d : Int} (h : g4 a b c d = 1) : fitM a b c d = true → (-1000 ≤ a ∧ a ≤ 1000) ∧ (-1000 ≤ b ∧ b ≤ 1000) ∧ (-1000 ≤ c ∧ c ≤ 1000) ∧ (-1000 ≤ d ∧ d ≤ 1000) := by
  intro hf
  unfold fitM entB rM byM at hf
  rw [h] at hf
  simp only [Bool.and_eq_true, decide_eq_true_eq] at hf
  rcases sg_or a b with e | e
  · rw [e] at hf; simpa using hf
  · rw [e] at hf
    simp only [Int.one_mul, Int.tdiv_neg, Int.tdiv_one] at hf
    omega
/-- The four numbers over one denominator. -/
def pmA (p T : Int) (D e : Int) : Int := T * p ^ D.toNat * p ^ (max (-e) 0).toNat
def pmB (p S T D D' e : Int) : Int := p ^ (max e 0).toNat * p ^ D.toNat * p ^ D'.toNat - S * T * p ^ (max (-e) 0).toNat
def pmC (p D D' e : Int) : Int := p ^ D.toNat * p ^ D'.toNat * p ^ (max (-e) 0).toNat
def pmD (p S D' e : Int) : Int := -S * p ^ D'.toNat * p ^ (max (-e) 0).toNat
theorem pm_det {p : Int} (hp : 2 ≤ p) (S T D D' e : Int) : pmA p T D e * pmD p S D' e - pmB p S T D D' e * pmC p D D' e ≠ 0 := by
  have h : pmA p T D e * pmD p S D' e - pmB p S T D D' e * pmC p D D' e = -(p ^ (max e 0).toNat * p ^ D.toNat * p ^ D'.toNat * (p ^ D.toNat * p ^ D'.toNat * p ^ (max (-e) 0).toNat)) := by
    unfold pmA pmB pmC pmD
    generalize p ^ (max e 0).toNat = u
    generalize p ^ D.toNat = x
    generalize p ^ D'.toNat = y
    generalize p ^ (max (-e) 0).toNat = z
    rw [Int.sub_mul]
    have : T * x * z * (-S * y * z) = -(S * T * z * (x * y * z)) := by
      simp only [Int.neg_mul, Int.mul_neg]
      congr 1
      ac_rfl
    omega
  rw [h]
  have hpos : ∀ n : Nat, p ^ n ≠ 0 := fun n => Int.pow_ne_zero (by omega)
  intro h0
  have := Int.neg_eq_zero.1 h0
  simp only [Int.mul_eq_zero] at this
  rcases this with ((h | h) | h) | ((h | h) | h) <;> exact hpos _ h
/-- The program's loop that takes powers of p out. -/
theorem pm_norm {p : Int} (hp : primeB p = true) (B C La Sa Da Lb Tb Db : Int) (n : Nat) : ∀ (num : Int), (n : Int) ≤ 1000 → B * p ^ n = num * C → ∃ (num' : Int) (n' : Nat), n' ≤ n ∧ B * p ^ n' = num' * C ∧ (n' = 0 ∨ ¬ p ∣ num') ∧ num'.natAbs ≤ num.natAbs ∧
    (num.natAbs ≤ 4611686018427387904 → ∀ r, Ev (fun k => impl_PairedMover.j4 k p num' n' La Sa Da Lb Tb Db) r → Ev (fun k => impl_PairedMover.l0 k p num n La Sa Da Lb Tb Db) r) := by
  have hp2 := prime_lo hp
  induction n with
  | zero =>
    intro num _ h
    refine ⟨num, 0, Nat.le_refl _, h, .inl rfl, Nat.le_refl _, fun hb r hr => ?_⟩
    have h3 : Ev (fun k => impl_PairedMover.j3 k p num ((0 : Nat) : Int) La Sa Da Lb Tb Db) r := by
      refine Ev.up ?_
      simp only [impl_PairedMover.j3]
      by_cases h0 : num = 0
      · simp only [if_pos h0]; exact hr
      · simp only [if_neg h0]; exact hr
    refine Ev.up ?_
    simp only [impl_PairedMover.l0]
    by_cases h0 : num = 0
    · simp only [if_pos h0]; exact h3
    · simp only [if_neg h0, if_neg (show ¬ ((0 : Nat) : Int) > 0 by omega)]; exact h3
  | succ n ih =>
    intro num hn h
    by_cases h0 : num = 0
    · refine ⟨0, 0, by omega, ?_, .inl rfl, by omega, fun hb r hr => ?_⟩
      · subst h0
        rw [Int.zero_mul] at h
        have hB : B = 0 := by
          rcases Int.mul_eq_zero.1 h with h | h
          · exact h
          · exact absurd h (Int.pow_ne_zero (by omega))
        rw [hB]; simp
      · refine Ev.up ?_
        simp only [impl_PairedMover.l0, if_pos h0]
        refine Ev.up ?_
        simp only [impl_PairedMover.j3, if_pos h0]
        rw [h0]; exact hr
    · by_cases hd : p ∣ num
      · obtain ⟨u, hu⟩ := hd
        have h1 : B * p ^ n = u * C := by
          rw [hu, Int.pow_succ] at h
          refine Int.eq_of_mul_eq_mul_left (a := p) (by omega) ?_
          rw [Int.mul_left_comm p B, Int.mul_comm p (p ^ n), h, Int.mul_assoc]
        have hq : Int.tdiv num p = u := by rw [hu]; exact Int.mul_tdiv_cancel_left _ (by omega)
        have hua : u.natAbs ≤ num.natAbs := by
          rw [hu, Int.natAbs_mul]
          exact Nat.le_mul_of_pos_left _ (by omega)
        obtain ⟨num', n', q1, q2, q3, q4, q5⟩ := ih u (by omega) h1
        refine ⟨num', n', by omega, q2, q3, by omega, fun hb r hr => ?_⟩
        refine Ev.up ?_
        simp only [impl_PairedMover.l0, if_neg h0, if_pos (show ((n + 1 : Nat) : Int) > 0 by omega), if_neg (show ¬ p = 0 by omega), if_pos (Int.tmod_eq_zero_of_dvd ⟨u, hu⟩)]
        rw [hq, wid (n := u) (by omega) (by omega), wid (n := ((n + 1 : Nat) : Int) - 1) (by omega) (by omega), show ((n + 1 : Nat) : Int) - 1 = (n : Int) by omega]
        exact q5 (by omega) r hr
      · refine ⟨num, n + 1, Nat.le_refl _, h, .inr hd, Nat.le_refl _, fun hb r hr => ?_⟩
        refine Ev.up ?_
        simp only [impl_PairedMover.l0, if_neg h0, if_pos (show ((n + 1 : Nat) : Int) > 0 by omega), if_neg (show ¬ p = 0 by omega), if_neg (show ¬ Int.tmod num p = 0 from fun h => hd (Int.dvd_of_tmod_eq_zero h))]
        refine Ev.up ?_
        simp only [impl_PairedMover.j3, if_neg h0]
        exact hr
/-- With the number over a power of p: the matrix over the greatest of the three powers, which has no common part. -/
theorem pm_same {p : Int} (hp : primeB p = true) {S T D D' e num : Int} {n j : Nat} (hD : 0 ≤ D) (hD' : 0 ≤ D') (hB : pmB p S T D D' e * p ^ n = num * pmC p D D' e) (h1 : D.toNat ≤ j) (h2 : D'.toNat ≤ j) (h3 : n ≤ j) :
    (rM (pmA p T D e) (pmB p S T D D' e) (pmC p D D' e) (pmD p S D' e) (pmA p T D e) = rM (T * p ^ (j - D'.toNat)) (num * p ^ (j - n)) (p ^ j) (-S * p ^ (j - D.toNat)) (T * p ^ (j - D'.toNat)) ∧
    rM (pmA p T D e) (pmB p S T D D' e) (pmC p D D' e) (pmD p S D' e) (pmB p S T D D' e) = rM (T * p ^ (j - D'.toNat)) (num * p ^ (j - n)) (p ^ j) (-S * p ^ (j - D.toNat)) (num * p ^ (j - n)) ∧
    rM (pmA p T D e) (pmB p S T D D' e) (pmC p D D' e) (pmD p S D' e) (pmC p D D' e) = rM (T * p ^ (j - D'.toNat)) (num * p ^ (j - n)) (p ^ j) (-S * p ^ (j - D.toNat)) (p ^ j) ∧
    rM (pmA p T D e) (pmB p S T D D' e) (pmC p D D' e) (pmD p S D' e) (pmD p S D' e) = rM (T * p ^ (j - D'.toNat)) (num * p ^ (j - n)) (p ^ j) (-S * p ^ (j - D.toNat)) (-S * p ^ (j - D.toNat))) ∧
    T * p ^ (j - D'.toNat) * (-S * p ^ (j - D.toNat)) - num * p ^ (j - n) * p ^ j ≠ 0 := by
  have hp2 := prime_lo hp
  have hpos : ∀ n : Nat, p ^ n ≠ 0 := fun n => Int.pow_ne_zero (by omega)
  have hC : pmC p D D' e ≠ 0 := by
    unfold pmC
    intro h
    simp only [Int.mul_eq_zero] at h
    rcases h with (h | h) | h <;> exact hpos _ h
  have eA : p ^ j * pmA p T D e = pmC p D D' e * (T * p ^ (j - D'.toNat)) := by
    have hj : p ^ j = p ^ D'.toNat * p ^ (j - D'.toNat) := by rw [← Int.pow_add]; congr 1; omega
    unfold pmA pmC
    rw [hj]
    generalize p ^ (j - D'.toNat) = w
    ac_rfl
  have eD : p ^ j * pmD p S D' e = pmC p D D' e * (-S * p ^ (j - D.toNat)) := by
    have hj : p ^ j = p ^ D.toNat * p ^ (j - D.toNat) := by rw [← Int.pow_add]; congr 1; omega
    unfold pmD pmC
    rw [hj]
    generalize p ^ (j - D.toNat) = w
    generalize -S = s
    ac_rfl
  have eB : p ^ j * pmB p S T D D' e = pmC p D D' e * (num * p ^ (j - n)) := by
    have hj : p ^ j = p ^ n * p ^ (j - n) := by rw [← Int.pow_add]; congr 1; omega
    rw [hj, show p ^ n * p ^ (j - n) * pmB p S T D D' e = pmB p S T D D' e * p ^ n * p ^ (j - n) from by ac_rfl, hB]
    ac_rfl
  have eC : p ^ j * pmC p D D' e = pmC p D D' e * p ^ j := Int.mul_comm _ _
  have hdet := pm_det hp2 S T D D' e
  have hne := rowNe hdet
  have det2 : T * p ^ (j - D'.toNat) * (-S * p ^ (j - D.toNat)) - num * p ^ (j - n) * p ^ j ≠ 0 := by
    intro h0
    apply hdet
    have q : p ^ j * p ^ j * (pmA p T D e * pmD p S D' e - pmB p S T D D' e * pmC p D D' e) = 0 := by
      rw [Int.mul_sub, show p ^ j * p ^ j * (pmA p T D e * pmD p S D' e) = (p ^ j * pmA p T D e) * (p ^ j * pmD p S D' e) from by ac_rfl,
        show p ^ j * p ^ j * (pmB p S T D D' e * pmC p D D' e) = (p ^ j * pmB p S T D D' e) * (p ^ j * pmC p D D' e) from by ac_rfl, eA, eB, eC, eD,
        show pmC p D D' e * (T * p ^ (j - D'.toNat)) * (pmC p D D' e * (-S * p ^ (j - D.toNat))) = pmC p D D' e * pmC p D D' e * (T * p ^ (j - D'.toNat) * (-S * p ^ (j - D.toNat))) from by ac_rfl,
        show pmC p D D' e * (num * p ^ (j - n)) * (pmC p D D' e * p ^ j) = pmC p D D' e * pmC p D D' e * (num * p ^ (j - n) * p ^ j) from by ac_rfl, ← Int.mul_sub, h0, Int.mul_zero]
    rcases Int.mul_eq_zero.1 q with h | h
    · rcases Int.mul_eq_zero.1 h with h | h <;> exact absurd h (hpos _)
    · exact h
  have hne2 := rowNe det2
  have k1 := rM_mul (m := p ^ j) (pmC p D D' e) (pmD p S D' e) (hpos j) hne
  have k2 := rM_mul (m := pmC p D D' e) (p ^ j) (-S * p ^ (j - D.toNat)) hC hne2
  rw [eA, eB, eC, eD] at k1
  exact ⟨⟨k1.1.symm.trans k2.1, k1.2.1.symm.trans k2.2.1, k1.2.2.1.symm.trans k2.2.2.1, k1.2.2.2.symm.trans k2.2.2.2⟩, det2⟩

-- block spec_l01Prime
theorem spec_l01Prime_eq (p : Int) : spec_l01Prime.f p = some (primeB p) := by
  unfold spec_l01Prime.f primeB
  by_cases h2 : p = 2
  · simp [h2]
  · by_cases h3 : p = 3
    · simp [h3]
    · by_cases h5 : p = 5
      · simp [h5]
      · rw [if_neg h2, if_neg h3, if_neg h5, beq_eq_false_iff_ne.2 h2, beq_eq_false_iff_ne.2 h3, beq_eq_false_iff_ne.2 h5]; rfl

-- block spec_l01Is
theorem spec_l01Is_ev (p L T D : Int) : Ev (fun k => spec_l01Is.f k p L T D) (ballB p L T D) := by
  have hno : Ev (fun k => spec_l01Is.j0 k p true L T D) false := Ev.step (f := fun _ => some false) (fun k => by simp only [spec_l01Is.j0, if_true]) (Ev.now _)
  unfold spec_l01Is.f
  refine Ev.bindv (spec_l01Prime_eq p) ?_
  unfold ballB
  cases hp : primeB p with
  | false => simpa using hno
  | true =>
    have hp2 := prime_lo hp
    simp only [if_true, Bool.true_and]
    refine Ev.bindv (In_eq L (-6) 6) ?_
    by_cases hL : -6 ≤ L ∧ L ≤ 6
    · rw [decide_eq_true hL]; simp only [if_true, Bool.true_and]
      refine Ev.bindv (In_eq D 0 6) ?_
      by_cases hD : 0 ≤ D ∧ D ≤ 6
      · rw [decide_eq_true hD]; simp only [Bool.not_true, Bool.true_and]
        have hn := wid (n := L + D) (by omega) (by omega)
        by_cases h0 : L + D ≤ 0
        · rw [if_pos h0]
          refine Ev.step (f := fun _ => some (T == 0 && D == 0)) (fun k => ?_) (Ev.now _)
          simp only [spec_l01Is.j0]
          rw [if_neg (by decide), hn, if_pos h0]
          by_cases hT : T = 0
          · simp [hT]
          · simp [hT]
        · rw [if_neg h0]
          refine Ev.step (f := fun k => (spec_l01Power.f k p (L + D)).bind fun t => (spec_l01In.f T 0 (wrap64 (t - 1))).bind fun t2 => if t2 = true then (if D = 0 then some true else if p = 0 then none else some (Int.tmod T p != 0)) else some false) (fun k => by simp only [spec_l01Is.j0]; rw [if_neg (by decide), hn, if_neg h0]) ?_
          refine Ev.bind (spec_l01Power_ev p (L + D) (by omega)) ?_
          rw [powW_prime hp _ (by omega)]
          have hpp := ipow_pos (p := p) (by omega) (L + D).toNat
          have hpt := pow_le_top hp (L + D).toNat (by omega)
          rw [wid (n := p ^ (L + D).toNat - 1) (by omega) (by omega)]
          refine Ev.bindv (In_eq _ _ _) ?_
          rw [show decide (0 ≤ T ∧ T ≤ p ^ (L + D).toNat - 1) = decide (0 ≤ T ∧ T < p ^ (L + D).toNat) from decide_eq_decide.2 (by omega)]
          cases decide (0 ≤ T ∧ T < p ^ (L + D).toNat) with
          | false => simp only [Bool.false_eq_true, if_false, Bool.false_and]; exact Ev.now _
          | true =>
            simp only [if_true, Bool.true_and]
            by_cases hd : D = 0
            · simp only [hd, if_true]; simp; exact Ev.now _
            · rw [if_neg hd, if_neg (by omega), show (D == 0) = false from beq_eq_false_iff_ne.2 hd, Bool.false_or]
              exact Ev.now _
      · rw [decide_eq_false hD]; simpa using hno
    · rw [decide_eq_false hL]; simpa using hno

-- block spec_l01Code
def codeB (p : Int) (l : List S29) : Bool := primeB p && l.all (fun b => ballB p b.f0 b.f1 b.f2)
theorem spec_l01Code_ev (p : Int) (l : List S29) (hl : l.length ≤ 4611686018427387904) : Ev (fun k => spec_l01Code.f k p l) (if codeB p l then 0 else 1) := by
  unfold spec_l01Code.f codeB
  refine Ev.bindv (spec_l01Prime_eq p) ?_
  cases hp : primeB p with
  | false => simp; exact Ev.now _
  | true =>
    simp only [if_true, Bool.true_and]
    rw [← all_range_getD l z29]
    refine all_ev' (fun k i => spec_l01Code.l0 k p l i) l.length (fun i => ballB p (l.getD i z29).f0 (l.getD i z29).f1 (l.getD i z29).f2) 0 1 ?_ ?_ ?_
    · intro i r hi hb hr
      refine Ev.step (f := fun k => (spec_l01Is.f k p (l.getD i z29).f0 (l.getD i z29).f1 (l.getD i z29).f2).bind fun t => if t = true then spec_l01Code.l0 k p l ((i : Int) + 1) else some 1) (fun k => ?_) ?_
      · simp only [spec_l01Code.l0]
        rw [if_pos (by omega), if_pos (by omega), wid (by omega) (by omega)]; rfl
      · refine Ev.bind (spec_l01Is_ev _ _ _ _) ?_
        rw [hb]; simpa using hr
    · intro i hi hb
      refine Ev.step (f := fun k => (spec_l01Is.f k p (l.getD i z29).f0 (l.getD i z29).f1 (l.getD i z29).f2).bind fun t => if t = true then spec_l01Code.l0 k p l ((i : Int) + 1) else some 1) (fun k => ?_) ?_
      · simp only [spec_l01Code.l0]
        rw [if_pos (by omega), if_pos (by omega), wid (by omega) (by omega)]; rfl
      · refine Ev.bind (spec_l01Is_ev _ _ _ _) ?_
        rw [hb]; simp; exact Ev.now _
    · exact Ev.step (f := fun _ => some 0) (fun k => by simp only [spec_l01Code.l0]; rw [if_neg (by omega)]) (Ev.now _)

-- block holdsB
/-- Whether one ball holds another: by marks. -/
def holdsB (p L T D L' T' D' : Int) : Bool := decide (L ≤ L') && ((markOf p T' D' - markOf p T D) % p ^ (L + 6).toNat == 0)
theorem holds_iff {p L T D T' D' : Int} (h : ballB p L T D = true) : ofM p L (markOf p T' D') = (L, T, D) ↔ (markOf p T' D' - markOf p T D) % p ^ (L + 6).toNat = 0 := by
  have hp2 := prime_lo (ball_parts h).1
  rw [← ofM_mark h, ofM_inj hp2]
  exact Int.emod_eq_emod_iff_emod_sub_eq_zero

-- block spec_l01Val
theorem spec_l01Val_l (p : Int) (hp : 2 ≤ p) (v : Nat) : ∀ (n u acc : Int), n = p ^ v * u → ¬ p ∣ u → n ≠ 0 → -4611686018427387904 ≤ n → n ≤ 4611686018427387904 → 0 ≤ acc → acc + v ≤ 4611686018427387904 → Ev (fun k => spec_l01Val.l0 k p n acc) (acc + v) := by
  induction v with
  | zero =>
    intro n u acc h hu h0 h1 h2 h3 h4
    refine Ev.step (f := fun _ => some acc) (fun k => ?_) (by simp; exact Ev.now _)
    simp only [spec_l01Val.l0]
    rw [if_neg (by omega), if_neg]
    intro e
    rw [h] at e
    exact hu (by simpa using Int.dvd_of_tmod_eq_zero e)
  | succ v ih =>
    intro n u acc h hu h0 h1 h2 h3 h4
    have hn : n = p * (p ^ v * u) := by rw [h, Int.pow_succ', Int.mul_assoc]
    have hm : Int.tmod n p = 0 := by rw [hn]; exact Int.mul_tmod_right p _
    have hd : Int.tdiv n p = p ^ v * u := by rw [hn]; exact Int.mul_tdiv_cancel_left _ (by omega)
    have hb := tdiv_bdv p (show -4611686018427387904 ≤ n ∧ n ≤ 4611686018427387904 from ⟨h1, h2⟩)
    have hne : p ^ v * u ≠ 0 := by intro e; rw [e] at hn; simp at hn; exact h0 hn
    refine Ev.step (f := fun k => spec_l01Val.l0 k p (p ^ v * u) (acc + 1)) (fun k => ?_) ?_
    · simp only [spec_l01Val.l0]
      rw [if_neg (by omega), if_pos hm, hd]
      rw [hd] at hb
      rw [wid (n := p ^ v * u) (by omega) (by omega), wid (n := acc + 1) (by omega) (by omega)]
    · rw [hd] at hb
      have := ih (p ^ v * u) u (acc + 1) rfl hu hne hb.1 hb.2 (by omega) (by omega)
      rw [show acc + ((v + 1 : Nat) : Int) = acc + 1 + (v : Int) from by omega]
      exact this
theorem spec_l01Val_ev {p n : Int} (hp : 2 ≤ p) (h0 : n ≠ 0) (h1 : -4611686018427387904 ≤ n) (h2 : n ≤ 4611686018427387904) : Ev (fun k => spec_l01Val.f k p n) (val p n : Int) := by
  obtain ⟨u, h, hu⟩ := val_spec hp h0
  have hv := val_le_of_lt hp h0 63 (by omega)
  have := spec_l01Val_l p hp (val p n) n u 0 h hu h0 h1 h2 (by omega) (by omega)
  rw [Int.zero_add] at this
  unfold spec_l01Val.f
  exact this

-- block modW
theorem tmod_cast {a m : Int} (h : 0 ≤ a) : Int.tmod a m = a % m := Int.tmod_eq_emod_of_nonneg h
theorem tdiv_cast {a m : Int} (h : 0 ≤ a) : Int.tdiv a m = a / m := Int.tdiv_eq_ediv_of_nonneg h
theorem tmod_lt' {a m : Int} (hm : 0 < m) : -m < Int.tmod a m ∧ Int.tmod a m < m := by
  have h1 := Int.natAbs_tmod a m
  have h2 := Nat.mod_lt a.natAbs (show 0 < m.natAbs by omega)
  omega
theorem emod_mul_emod' (a b m : Int) : a % m * b % m = a * b % m := by rw [Int.mul_emod (a % m) b m, Int.emod_emod, ← Int.mul_emod]
/-- The remainder that is at least 0, as both texts reckon it. -/
theorem modW {a m : Int} (hm : 1 ≤ m) (hm2 : m ≤ 2305843009213693952) : Int.tmod (wrap64 (Int.tmod a m + m)) m = a % m := by
  obtain ⟨h1, h2⟩ := tmod_lt' (a := a) (show 0 < m by omega)
  rw [wid (by omega) (by omega), tmod_cast (by omega), Int.add_emod_right]
  have e := Int.tmod_add_mul_tdiv a m
  conv => rhs; rw [← e, Int.add_mul_emod_self_left]

-- block spec_l01MulMod
theorem spec_l01MulMod_eq {a b m : Int} (hm : 1 ≤ m) (hm2 : m ≤ 100000000000) : spec_l01MulMod.f a b m = some (a * b % m) := by
  unfold spec_l01MulMod.f
  rw [if_neg (by omega), modW hm (by omega), modW hm (by omega)]
  have a0 := Int.emod_nonneg a (show m ≠ 0 by omega)
  have a1 := Int.emod_lt_of_pos a (show 0 < m by omega)
  have b0 := Int.emod_nonneg b (show m ≠ 0 by omega)
  have b1 := Int.emod_lt_of_pos b (show 0 < m by omega)
  have hab : a * b % m = (a % m) * (b % m) % m := Int.mul_emod a b m
  rw [hab]
  generalize a % m = x at *
  generalize b % m = y at *
  rw [tdiv_cast b0, tmod_cast b0]
  have q0 : 0 ≤ y / 1000000 := by omega
  have q1 : y / 1000000 ≤ 100000 := by omega
  have r0 : 0 ≤ y % 1000000 := by omega
  have r1 : y % 1000000 ≤ 1000000 := by omega
  have p0 : 0 ≤ x * (y / 1000000) := Int.mul_nonneg a0 q0
  have p1 : x * (y / 1000000) ≤ 100000000000 * 100000 := Int.mul_le_mul (by omega) q1 q0 (by omega)
  have s0 : 0 ≤ x * (y % 1000000) := Int.mul_nonneg a0 r0
  have s1 : x * (y % 1000000) ≤ 100000000000 * 1000000 := Int.mul_le_mul (by omega) r1 r0 (by omega)
  rw [wid (n := y / 1000000) (by omega) (by omega), wid (n := x * (y / 1000000)) (by omega) (by omega), wid (n := x * (y % 1000000)) (by omega) (by omega), tmod_cast p0, tmod_cast s0]
  have t0 := Int.emod_nonneg (x * (y / 1000000)) (show m ≠ 0 by omega)
  have t1 := Int.emod_lt_of_pos (x * (y / 1000000)) (show 0 < m by omega)
  rw [wid (n := x * (y / 1000000) % m * 1000000) (by omega) (by omega), tmod_cast (a := x * (y / 1000000) % m * 1000000) (by omega)]
  have u0 := Int.emod_nonneg (x * (y / 1000000) % m * 1000000) (show m ≠ 0 by omega)
  have u1 := Int.emod_lt_of_pos (x * (y / 1000000) % m * 1000000) (show 0 < m by omega)
  have v0 := Int.emod_nonneg (x * (y % 1000000)) (show m ≠ 0 by omega)
  have v1 := Int.emod_lt_of_pos (x * (y % 1000000)) (show 0 < m by omega)
  rw [wid (n := x * (y / 1000000) % m * 1000000 % m + x * (y % 1000000) % m) (by omega) (by omega), tmod_cast (a := x * (y / 1000000) % m * 1000000 % m + x * (y % 1000000) % m) (by omega)]
  congr 1
  have e1 : x * (y / 1000000) % m * 1000000 % m = x * (y / 1000000) * 1000000 % m := by rw [emod_mul_emod']
  rw [e1, ← Int.add_emod]
  congr 1
  rw [Int.mul_assoc, ← Int.mul_add]
  congr 1
  omega

-- block spec_l01InvMod1
theorem spec_l01InvMod_one {m : Int} (hm : 2 ≤ m) (hm2 : m ≤ 100000000000) : Ev (fun k => spec_l01InvMod.f k 1 m) 1 := by
  have h1 : Int.tmod (wrap64 (Int.tmod 1 m + m)) m = 1 := by rw [modW (by omega) (by omega)]; exact Int.emod_eq_of_lt (by omega) (by omega)
  refine Ev.congr (f := fun k => spec_l01InvMod.l0 k m 1 m 1 0) (fun k => by unfold spec_l01InvMod.f; rw [if_neg (by omega), h1]) ?_
  have q0 : Int.tdiv 1 m = 0 := by rw [tdiv_cast (by omega)]; exact Int.ediv_eq_zero_of_lt (by omega) (by omega)
  have q1 : Int.tdiv m 1 = m := Int.tdiv_one m
  have z0 : wrap64 0 = 0 := wid (by omega) (by omega)
  have z1 : wrap64 1 = 1 := wid (by omega) (by omega)
  refine Ev.step (f := fun k => spec_l01InvMod.l0 k m m 1 0 1) (fun k => ?_) ?_
  · simp only [spec_l01InvMod.l0]
    rw [if_neg (by omega), q0, z0, Int.zero_mul, z0, Int.sub_zero, z1, Int.mul_zero, z0, Int.sub_zero, z1]
  refine Ev.step (f := fun k => spec_l01InvMod.l0 k m 1 0 1 (-m)) (fun k => ?_) ?_
  · simp only [spec_l01InvMod.l0]
    rw [if_neg (by omega), q1, wid (n := m) (by omega) (by omega), Int.mul_one, wid (n := m) (by omega) (by omega), Int.sub_self, z0, Int.zero_sub, wid (n := -m) (by omega) (by omega)]
  refine Ev.step (f := fun _ => some 1) (fun k => ?_) (Ev.now _)
  simp only [spec_l01InvMod.l0]
  rw [if_pos trivial, if_neg (by omega), h1]

-- block spec_l01OfPow
theorem mx_eq (a b : Int) : mx a b = if a < b then b else a := rfl
/-- The ball of a fraction over a power of p: the ball of its mark. -/
theorem spec_l01Of_pow {p num L : Int} (D : Nat) (hp : primeB p = true) (hD : D ≤ 6) (h1 : -1152921504606846976 ≤ num) (h2 : num ≤ 1152921504606846976) (hL : -6 ≤ L ∧ L ≤ 6) :
    Ev (fun k => spec_l01Of.f k p num (p ^ D) L) ((ofM p L (num * p ^ (6 - D))).1, (ofM p L (num * p ^ (6 - D))).2.1, (ofM p L (num * p ^ (6 - D))).2.2, true) := by
  have hp2 := prime_lo hp
  have hpow : ∀ j : Nat, p ^ j ≠ 0 := fun j => Int.pow_ne_zero (by omega)
  have hpD := pow_13 hp D (by omega)
  have hpD1 := ipow_pos (p := p) (by omega) D
  unfold spec_l01Of.f
  refine Ev.bindv (In_eq _ _ _) ?_
  rw [decide_eq_true hL]
  simp only [if_true]
  by_cases h0 : num = 0
  · simp only [if_pos h0]
    have e : ofM p L (num * p ^ (6 - D)) = (L, 0, 0) := by
      rw [h0, Int.zero_mul]; exact ofM_of hp2 (by simp) (by omega) (.inl rfl)
    rw [e]; exact Ev.now _
  simp only [if_neg h0]
  have hvD : val p (p ^ D) = D := val_eq hp2 (u := 1) (by simp) (fun h => by have := Int.le_of_dvd (by omega) h; omega)
  have hv60 := val_le_of_lt hp2 h0 61 (by omega)
  refine Ev.bind (spec_l01Val_ev hp2 h0 (by omega) (by omega)) (Ev.bind (spec_l01Val_ev hp2 (hpow D) (by omega) (by omega)) ?_)
  rw [hvD]
  obtain ⟨u, hu, hn⟩ := val_spec hp2 h0
  generalize hv : val p num = v at *
  rw [wid (n := (v : Int) - (D : Int)) (by omega) (by omega), wid (n := (D : Int) - (v : Int)) (by omega) (by omega)]
  have hX : num * p ^ (6 - D) = p ^ (v + (6 - D)) * u := by
    rw [hu, Int.pow_add, Int.mul_assoc, Int.mul_assoc, Int.mul_comm u]
  by_cases hle : L ≤ (v : Int) - (D : Int)
  · simp only [if_pos hle]
    have e : ofM p L (num * p ^ (6 - D)) = (L, 0, 0) := by
      refine ofM_of hp2 ?_ (by omega) (.inl rfl)
      rw [hX, Int.zero_mul, show v + (6 - D) = (L + 6).toNat + (v + (6 - D) - (L + 6).toNat) from by omega, Int.pow_add, Int.mul_assoc]
      exact Int.mul_emod_right _ _
    rw [e]; exact Ev.now _
  simp only [if_neg hle]
  -- the number of places down
  obtain ⟨dn, hdn⟩ : ∃ dn : Nat, (dn : Int) = mx ((D : Int) - (v : Int)) 0 := ⟨D - v, by rw [mx_eq]; split <;> omega⟩
  have hdn2 : (dn : Int) = if (D : Int) - v < 0 then 0 else (D : Int) - v := by rw [hdn, mx_eq]
  rw [← hdn]
  have hdn6 : dn ≤ D := by split at hdn2 <;> omega
  have hmp : 1 ≤ L + dn := by split at hdn2 <;> omega
  have hmp2 : (L + dn).toNat ≤ 12 := by omega
  simp only [if_neg (show ¬ (dn : Int) > 6 by omega)]
  rw [wid (n := L + (dn : Int)) (by omega) (by omega)]
  refine Ev.bind (spec_l01Power_ev p (L + dn) (by omega)) ?_
  rw [powW_prime hp _ (by omega)]
  have hu0 : u ≠ 0 := by intro e; rw [e] at hn; exact hn (Int.dvd_zero p)
  have hpv1 := ipow_pos (p := p) (by omega) v
  have hpv : p ^ v ≤ 1152921504606846976 := by
    have : num.natAbs = (p ^ v).natAbs * u.natAbs := by rw [← Int.natAbs_mul, ← hu]
    have h3 : (p ^ v).natAbs * 1 ≤ (p ^ v).natAbs * u.natAbs := Nat.mul_le_mul_left _ (by omega)
    omega
  have hub : -1152921504606846976 ≤ u ∧ u ≤ 1152921504606846976 := by
    have : num.natAbs = (p ^ v).natAbs * u.natAbs := by rw [← Int.natAbs_mul, ← hu]
    have h3 : 1 * u.natAbs ≤ (p ^ v).natAbs * u.natAbs := Nat.mul_le_mul_right _ (by omega)
    omega
  have pv : powW p v 1 = p ^ v := by rw [powW_fit p (by omega) v 1 (by omega) (by omega), Int.one_mul]
  refine Ev.bind (spec_l01Power_ev p v (by omega)) ?_
  rw [Int.toNat_natCast, pv]
  simp only [if_neg (hpow v)]
  refine Ev.bind (spec_l01Power_ev p D (by omega)) ?_
  rw [Int.toNat_natCast, powW_prime hp D (by omega)]
  simp only [if_neg (hpow D)]
  rw [Int.tdiv_self (hpow D), show wrap64 1 = 1 from wid (by omega) (by omega)]
  have hm1 : p ^ (L + (dn : Int)).toNat ≤ 13841287201 := pow_13 hp _ hmp2
  have hm0 : 2 ≤ p ^ (L + (dn : Int)).toNat := by
    have := ipow_mono (p := p) (by omega) (show 1 ≤ (L + (dn : Int)).toNat by omega)
    rw [Int.pow_one] at this; omega
  refine Ev.bind (spec_l01InvMod_one hm0 (by omega)) ?_
  have hq : Int.tdiv num (p ^ v) = u := by
    conv => lhs; lhs; rw [hu]
    exact Int.mul_tdiv_cancel_left _ (hpow v)
  rw [hq, wid (n := u) (by omega) (by omega)]
  refine Ev.bindv (spec_l01MulMod_eq (by omega) (by omega)) ?_
  rw [Int.mul_one]
  obtain ⟨e, he⟩ : ∃ e : Nat, (e : Int) = mx ((v : Int) - (D : Int)) 0 := ⟨v - D, by rw [mx_eq]; split <;> omega⟩
  have he2 : (e : Int) = if (v : Int) - D < 0 then 0 else (v : Int) - D := by rw [he, mx_eq]
  rw [← he]
  have hev : e ≤ v := by split at he2 <;> omega
  have hpe : p ^ e ≤ p ^ v := ipow_mono (by omega) hev
  refine Ev.bind (spec_l01Power_ev p e (by omega)) ?_
  rw [Int.toNat_natCast, powW_fit p (by omega) e 1 (by omega) (by omega), Int.one_mul]
  refine Ev.bindv (spec_l01MulMod_eq (by omega) (by omega)) ?_
  have hT : u % p ^ (L + (dn : Int)).toNat * p ^ e % p ^ (L + (dn : Int)).toNat = u * p ^ e % p ^ (L + (dn : Int)).toNat := by rw [emod_mul_emod']
  rw [hT]
  have hexp : v + (6 - D) = (6 - (dn : Int)).toNat + e := by split at hdn2 <;> split at he2 <;> omega
  have hexp2 : (L + 6).toNat = (6 - (dn : Int)).toNat + (L + (dn : Int)).toNat := by omega
  have key : ofM p L (num * p ^ (6 - D)) = (L, u * p ^ e % p ^ (L + (dn : Int)).toNat, (dn : Int)) := by
    refine ofM_of hp2 ?_ (by omega) ?_
    · rw [hX, hexp, hexp2, Int.pow_add, Int.pow_add, Int.mul_assoc, Int.mul_emod_mul_of_pos _ _ (Int.lt_of_lt_of_le (by omega) (ipow_pos (p := p) (by omega) _)), Int.mul_comm (p ^ e) u, Int.mul_comm]
    · by_cases hz : dn = 0
      · left; omega
      · right
        have e0 : e = 0 := by split at hdn2 <;> split at he2 <;> omega
        rw [e0, Int.pow_zero, Int.mul_one]
        intro hd
        apply hn
        have hpm : p ∣ p ^ (L + (dn : Int)).toNat := by
          obtain ⟨j, hj⟩ : ∃ j, (L + (dn : Int)).toNat = j + 1 := ⟨(L + (dn : Int)).toNat - 1, by omega⟩
          rw [hj, Int.pow_succ']; exact Int.dvd_mul_right _ _
        have := Int.dvd_add hd (Int.dvd_trans hpm (Int.dvd_mul_right (p ^ (L + (dn : Int)).toNat) (u / p ^ (L + (dn : Int)).toNat)))
        rwa [Int.emod_add_mul_ediv] at this
  rw [key]
  exact Ev.now _
theorem spec_l01Of_out {p num den L : Int} (hL : ¬ (-6 ≤ L ∧ L ≤ 6)) : Ev (fun k => spec_l01Of.f k p num den L) (0, 0, 0, false) := by
  unfold spec_l01Of.f
  refine Ev.bindv (In_eq _ _ _) ?_
  rw [decide_eq_false hL]
  simp only [Bool.false_eq_true, if_false]
  exact Ev.now _

-- block spec_l01OfBall
/-- The ball of a level with the centre of a ball. -/
theorem spec_l01Of_ball {p L T D : Int} (K : Int) (h : ballB p L T D = true) (hK : -6 ≤ K ∧ K ≤ 6) : Ev (fun k => (spec_l01Power.f k p D).bind fun t => spec_l01Of.f k p T t K) ((ofM p K (markOf p T D)).1, (ofM p K (markOf p T D)).2.1, (ofM p K (markOf p T D)).2.2, true) := by
  obtain ⟨hp, hL, hD, _⟩ := ball_parts h
  have hT := ball_num h
  refine Ev.bind (spec_l01Power_ev p D (by omega)) ?_
  rw [powW_prime hp _ (by omega)]
  have := spec_l01Of_pow (num := T) D.toNat hp (by omega) (by omega) (by omega) hK
  rw [show 6 - D.toNat = (6 - D).toNat from by omega] at this
  exact this

-- block spec_l01Holds
theorem spec_l01Holds_ev {p L T D L' T' D' : Int} (h : ballB p L T D = true) (h' : ballB p L' T' D' = true) : Ev (fun k => spec_l01Holds.f k p L T D L' T' D') (holdsB p L T D L' T' D') := by
  obtain ⟨hp, hL, hD, _⟩ := ball_parts h
  obtain ⟨_, hL', hD', _⟩ := ball_parts h'
  have hT' := ball_num h'
  unfold spec_l01Holds.f holdsB
  by_cases hle : L ≤ L'
  · simp only [if_neg (show ¬ L > L' by omega), decide_eq_true hle, Bool.true_and]
    refine Ev.bind (spec_l01Power_ev p D' (by omega)) ?_
    rw [powW_prime hp _ (by omega)]
    have := spec_l01Of_pow (num := T') D'.toNat hp (by omega) (by omega) (by omega) hL
    rw [show 6 - D'.toNat = (6 - D').toNat from by omega] at this
    refine Ev.bind this ?_
    simp only [if_true]
    rw [show ((ofM p L (T' * p ^ (6 - D').toNat)).1 == L && ((ofM p L (T' * p ^ (6 - D').toNat)).2.1 == T && (ofM p L (T' * p ^ (6 - D').toNat)).2.2 == D)) = ((markOf p T' D' - markOf p T D) % p ^ (L + 6).toNat == 0) from by
      rw [Bool.eq_iff_iff]
      simp only [Bool.and_eq_true, beq_iff_eq]
      rw [← holds_iff h]
      show _ ↔ ofM p L (T' * p ^ (6 - D').toNat) = (L, T, D)
      constructor
      · rintro ⟨e1, e2, e3⟩; exact Prod.ext e1 (Prod.ext e2 e3)
      · intro e; rw [e]; exact ⟨rfl, rfl, rfl⟩]
    exact Ev.now _
  · simp only [if_pos (show L > L' by omega), decide_eq_false hle, Bool.false_and]; exact Ev.now _

-- block pairedS
theorem g4_chain (A B C D : Int) : (Int.gcd D (Int.gcd C (Int.gcd B (Int.gcd A 0 : Int) : Int) : Int) : Int) = g4 A B C D := by
  unfold g4
  congr 1
  show Nat.gcd D.natAbs (Nat.gcd C.natAbs (Nat.gcd B.natAbs (Nat.gcd A.natAbs 0))) = Nat.gcd (Nat.gcd A.natAbs B.natAbs) (Nat.gcd C.natAbs D.natAbs)
  rw [Nat.gcd_zero_right]
  apply Nat.dvd_antisymm
  · refine Nat.dvd_gcd (Nat.dvd_gcd ?_ ?_) (Nat.dvd_gcd ?_ ?_)
    · exact Nat.dvd_trans (Nat.gcd_dvd_right _ _) (Nat.dvd_trans (Nat.gcd_dvd_right _ _) (Nat.gcd_dvd_right _ _))
    · exact Nat.dvd_trans (Nat.gcd_dvd_right _ _) (Nat.dvd_trans (Nat.gcd_dvd_right _ _) (Nat.gcd_dvd_left _ _))
    · exact Nat.dvd_trans (Nat.gcd_dvd_right _ _) (Nat.gcd_dvd_left _ _)
    · exact Nat.gcd_dvd_left _ _
  · refine Nat.dvd_gcd ?_ (Nat.dvd_gcd ?_ (Nat.dvd_gcd ?_ ?_))
    · exact Nat.dvd_trans (Nat.gcd_dvd_right _ _) (Nat.gcd_dvd_right _ _)
    · exact Nat.dvd_trans (Nat.gcd_dvd_right _ _) (Nat.gcd_dvd_left _ _)
    · exact Nat.dvd_trans (Nat.gcd_dvd_left _ _) (Nat.gcd_dvd_right _ _)
    · exact Nat.dvd_trans (Nat.gcd_dvd_left _ _) (Nat.gcd_dvd_left _ _)
theorem gstep {β : Type} {v d : Int} {cont : Nat → Int → Option β} {r : β} (hv : bd62 v) (hd : bd62 d) (h : Ev (fun k => cont k (Int.gcd v d : Int)) r) :
    Ev (fun k => if v = 0 then (if d = 0 then cont k d else (spec_l01Gcd.f k v d).bind fun t => cont k t) else (spec_l01Gcd.f k v d).bind fun t => cont k t) r := by
  unfold bd62 at hv hd
  have hb : Ev (fun k => (spec_l01Gcd.f k v d).bind fun t => cont k t) r := Ev.bind (spec_l01Gcd_ev v d (by omega) (by omega) (by omega) (by omega)) h
  by_cases h1 : v = 0
  · by_cases h2 : d = 0
    · simp only [if_pos h1, if_pos h2]
      rw [h1, h2] at h
      rw [h2]
      exact h
    · simp only [if_pos h1, if_neg h2]; exact hb
  · simp only [if_neg h1]; exact hb
theorem gcd_bd62 {a b : Int} (ha : bd62 a) (hb : bd62 b) : bd62 (Int.gcd a b : Int) := by
  have := gcd_le ha hb
  unfold bd62
  omega
theorem paired_l2 {A B C D y : Int} (hA : bd62 A) (hB : bd62 B) (hC : bd62 C) (hD : bd62 D) (hy : y ≠ 0) :
    Ev (fun k => spec_l09Paired.l2 k y 0 A B C D) (if entB (Int.tdiv A y) && (entB (Int.tdiv B y) && (entB (Int.tdiv C y) && entB (Int.tdiv D y))) then (Int.tdiv A y, Int.tdiv B y, Int.tdiv C y, Int.tdiv D y, true) else (0, 0, 0, 0, false)) := by
  have wx : ∀ x, bd62 x → wrap64 (Int.tdiv x y) = Int.tdiv x y := fun x hx => by have := tdiv_bd y hx; exact wid (by omega) (by omega)
  have w1 : wrap64 (0 + 1) = 1 := by rw [wid (by omega) (by omega)]; rfl
  have w2 : wrap64 (1 + 1) = 2 := by rw [wid (by omega) (by omega)]; rfl
  have w3 : wrap64 (2 + 1) = 3 := by rw [wid (by omega) (by omega)]; rfl
  have w4 : wrap64 (3 + 1) = 4 := by rw [wid (by omega) (by omega)]; rfl
  refine Ev.up ?_
  simp only [spec_l09Paired.l2, if_pos (show (0 : Int) < 4 by decide), if_pos (rfl : (0 : Int) = 0), if_neg hy, wx A hA]
  refine Ev.bindv (In_eq _ _ _) ?_
  show Ev _ (if entB (Int.tdiv A y) && _ then _ else _)
  cases hEA : entB (Int.tdiv A y) with
  | false =>
    rw [show decide (-1000 ≤ Int.tdiv A y ∧ Int.tdiv A y ≤ 1000) = false from hEA]
    simp only [Bool.false_eq_true, if_false, Bool.false_and]; exact Ev.now _
  | true =>
    rw [show decide (-1000 ≤ Int.tdiv A y ∧ Int.tdiv A y ≤ 1000) = true from hEA]
    simp only [if_true, Bool.true_and, w1]
    refine Ev.up ?_
    simp only [spec_l09Paired.l2, if_pos (show (1 : Int) < 4 by decide), if_neg (show ¬ (1 : Int) = 0 by decide), if_pos (rfl : (1 : Int) = 1), if_neg hy, wx B hB]
    refine Ev.bindv (In_eq _ _ _) ?_
    cases hEB : entB (Int.tdiv B y) with
    | false =>
      rw [show decide (-1000 ≤ Int.tdiv B y ∧ Int.tdiv B y ≤ 1000) = false from hEB]
      simp only [Bool.false_eq_true, if_false, Bool.false_and]; exact Ev.now _
    | true =>
      rw [show decide (-1000 ≤ Int.tdiv B y ∧ Int.tdiv B y ≤ 1000) = true from hEB]
      simp only [if_true, Bool.true_and, w2]
      refine Ev.up ?_
      simp only [spec_l09Paired.l2, if_pos (show (2 : Int) < 4 by decide), if_neg (show ¬ (2 : Int) = 0 by decide), if_neg (show ¬ (2 : Int) = 1 by decide), if_pos (rfl : (2 : Int) = 2), if_neg hy, wx C hC]
      refine Ev.bindv (In_eq _ _ _) ?_
      cases hEC : entB (Int.tdiv C y) with
      | false =>
        rw [show decide (-1000 ≤ Int.tdiv C y ∧ Int.tdiv C y ≤ 1000) = false from hEC]
        simp only [Bool.false_eq_true, if_false, Bool.false_and]; exact Ev.now _
      | true =>
        rw [show decide (-1000 ≤ Int.tdiv C y ∧ Int.tdiv C y ≤ 1000) = true from hEC]
        simp only [if_true, Bool.true_and, w3]
        refine Ev.up ?_
        simp only [spec_l09Paired.l2, if_pos (show (3 : Int) < 4 by decide), if_neg (show ¬ (3 : Int) = 0 by decide), if_neg (show ¬ (3 : Int) = 1 by decide), if_neg (show ¬ (3 : Int) = 2 by decide), if_pos (rfl : (3 : Int) = 3), if_neg hy, wx D hD]
        refine Ev.bindv (In_eq _ _ _) ?_
        cases hED : entB (Int.tdiv D y) with
        | false =>
          rw [show decide (-1000 ≤ Int.tdiv D y ∧ Int.tdiv D y ≤ 1000) = false from hED]
          simp only [Bool.false_eq_true, if_false]; exact Ev.now _
        | true =>
          rw [show decide (-1000 ≤ Int.tdiv D y ∧ Int.tdiv D y ≤ 1000) = true from hED]
          simp only [if_true, w4]
          refine Ev.up ?_
          simp only [spec_l09Paired.l2, if_neg (show ¬ (4 : Int) < 4 by decide)]
          exact Ev.now _
theorem paired_l0 {A B C D : Int} (hA : bd62 A) (hB : bd62 B) (hC : bd62 C) (hD : bd62 D) (hne : A ≠ 0 ∨ B ≠ 0) :
    Ev (fun k => spec_l09Paired.l0 k 0 0 A B C D) (if fitM A B C D then (rM A B C D A, rM A B C D B, rM A B C D C, rM A B C D D, true) else (0, 0, 0, 0, false)) := by
  have w1 : wrap64 (0 + 1) = 1 := by rw [wid (by omega) (by omega)]; rfl
  have w2 : wrap64 (1 + 1) = 2 := by rw [wid (by omega) (by omega)]; rfl
  have w3 : wrap64 (2 + 1) = 3 := by rw [wid (by omega) (by omega)]; rfl
  have w4 : wrap64 (3 + 1) = 4 := by rw [wid (by omega) (by omega)]; rfl
  have z : bd62 0 := by unfold bd62; omega
  have d1 := gcd_bd62 hA z
  have d2 := gcd_bd62 hB d1
  have d3 := gcd_bd62 hC d2
  have d4 := gcd_bd62 hD d3
  refine Ev.up ?_
  simp only [spec_l09Paired.l0, if_pos (show (0 : Int) < 4 by decide), if_pos (rfl : (0 : Int) = 0), w1]
  refine gstep (cont := fun k t => spec_l09Paired.l0 k t 1 A B C D) hA z (Ev.up ?_)
  simp only [spec_l09Paired.l0, if_pos (show (1 : Int) < 4 by decide), if_neg (show ¬ (1 : Int) = 0 by decide), if_pos (rfl : (1 : Int) = 1), w2]
  refine gstep (cont := fun k t => spec_l09Paired.l0 k t 2 A B C D) hB d1 (Ev.up ?_)
  simp only [spec_l09Paired.l0, if_pos (show (2 : Int) < 4 by decide), if_neg (show ¬ (2 : Int) = 0 by decide), if_neg (show ¬ (2 : Int) = 1 by decide), if_pos (rfl : (2 : Int) = 2), w3]
  refine gstep (cont := fun k t => spec_l09Paired.l0 k t 3 A B C D) hC d2 (Ev.up ?_)
  simp only [spec_l09Paired.l0, if_pos (show (3 : Int) < 4 by decide), if_neg (show ¬ (3 : Int) = 0 by decide), if_neg (show ¬ (3 : Int) = 1 by decide), if_neg (show ¬ (3 : Int) = 2 by decide), if_pos (rfl : (3 : Int) = 3), w4]
  refine gstep (cont := fun k t => spec_l09Paired.l0 k t 4 A B C D) hD d3 (Ev.up ?_)
  simp only [spec_l09Paired.l0, if_neg (show ¬ (4 : Int) < 4 by decide)]
  rw [g4_chain] at d4 ⊢
  have hy := byM_ne C D hne
  have fin := paired_l2 hA hB hC hD hy
  have j3 : Ev (fun k => spec_l09Paired.j3 k (byM A B C D) A B C D) (if fitM A B C D then (rM A B C D A, rM A B C D B, rM A B C D C, rM A B C D D, true) else (0, 0, 0, 0, false)) := by
    refine Ev.up ?_
    simp only [spec_l09Paired.j3]
    exact fin
  unfold bd62 at d4
  have pos : sg A B = 1 → g4 A B C D = byM A B C D := fun e => by unfold byM; rw [e]; omega
  have neg : sg A B = -1 → wrap64 (-(g4 A B C D)) = byM A B C D := fun e => by rw [wid (by omega) (by omega)]; unfold byM; rw [e]; omega
  refine Ev.up ?_
  simp only [spec_l09Paired.l1, if_pos (show (0 : Int) < 4 by decide), if_pos (rfl : (0 : Int) = 0), w1]
  by_cases hA0 : A = 0
  · simp only [if_pos hA0]
    have hB0 := hne.resolve_left (fun h => h hA0)
    refine Ev.up ?_
    simp only [spec_l09Paired.l1, if_pos (show (1 : Int) < 4 by decide), if_neg (show ¬ (1 : Int) = 0 by decide), if_pos (rfl : (1 : Int) = 1), if_neg hB0]
    by_cases hBn : B < 0
    · simp only [if_pos hBn]
      rw [neg (by unfold sg; rw [if_pos (.inr ⟨hA0, hBn⟩)])]; exact j3
    · simp only [if_neg hBn]
      rw [pos (by unfold sg; rw [if_neg (by omega)])]; exact j3
  · simp only [if_neg hA0]
    by_cases hAn : A < 0
    · simp only [if_pos hAn]
      rw [neg (by unfold sg; rw [if_pos (.inl hAn)])]; exact j3
    · simp only [if_neg hAn]
      rw [pos (by unfold sg; rw [if_neg (by omega)])]; exact j3

-- block eqMatrix
theorem laws_eqInt64A2_ev (a b : Int) : Ev (fun k => laws_eqInt64A2.f k a b a b) true := by
  have w0 : wrap64 1 = 1 := wid (by omega) (by omega)
  have w1 : wrap64 2 = 2 := wid (by omega) (by omega)
  unfold laws_eqInt64A2.f
  refine Ev.step (f := fun k => laws_eqInt64A2.l0 k 1 a b a b) (fun k => by simp [laws_eqInt64A2.l0, w0]) ?_
  refine Ev.step (f := fun k => laws_eqInt64A2.l0 k 2 a b a b) (fun k => by simp [laws_eqInt64A2.l0, w1]) ?_
  exact Ev.step (f := fun _ => some true) (fun k => by simp [laws_eqInt64A2.l0]) (Ev.now _)
theorem laws_eqMatrix_ev (a b c d : Int) : Ev (fun k => laws_eqMatrix.f k a b c d a b c d) true := by
  have w0 : wrap64 1 = 1 := wid (by omega) (by omega)
  have w1 : wrap64 2 = 2 := wid (by omega) (by omega)
  unfold laws_eqMatrix.f
  refine Ev.step (f := fun k => (laws_eqInt64A2.f k a b a b).bind fun t => if t = true then laws_eqMatrix.l0 k 1 a b c d a b c d else some false) (fun k => by simp [laws_eqMatrix.l0, w0]) ?_
  refine Ev.bind (laws_eqInt64A2_ev a b) ?_
  simp only [if_true]
  refine Ev.step (f := fun k => (laws_eqInt64A2.f k c d c d).bind fun t => if t = true then laws_eqMatrix.l0 k 2 a b c d a b c d else some false) (fun k => by simp [laws_eqMatrix.l0, w1]) ?_
  refine Ev.bind (laws_eqInt64A2_ev c d) ?_
  simp only [if_true]
  exact Ev.step (f := fun _ => some true) (fun k => by simp [laws_eqMatrix.l0]) (Ev.now _)

-- block impl_isPrime
theorem impl_isPrime_eq (p : Int) : impl_isPrime.f p = some (primeB p) := by
  unfold impl_isPrime.f primeB
  by_cases h2 : p = 2
  · simp [h2]
  · by_cases h3 : p = 3
    · simp [h3]
    · by_cases h5 : p = 5
      · simp [h5]
      · rw [if_neg h2, if_neg h3, if_neg h5, beq_eq_false_iff_ne.2 h2, beq_eq_false_iff_ne.2 h3, beq_eq_false_iff_ne.2 h5]; rfl

-- block impl_IsBall
theorem impl_isLevel_eq (L : Int) : impl_isLevel.f L = some (decide (-6 ≤ L ∧ L ≤ 6)) := by
  unfold impl_isLevel.f
  by_cases h : L ≥ -6
  · rw [if_pos h]; congr 1; exact decide_eq_decide.2 ⟨fun h2 => ⟨h, h2⟩, fun h2 => h2.2⟩
  · rw [if_neg h]; congr 1; exact (decide_eq_false (fun h2 => h h2.1)).symm
theorem impl_IsBall_ev (p L T D : Int) : Ev (fun k => impl_IsBall.f k p L T D) (ballB p L T D) := by
  have hno : Ev (fun k => impl_IsBall.j0 k p true L T D) false := Ev.step (f := fun _ => some false) (fun k => by simp only [impl_IsBall.j0, if_true]) (Ev.now _)
  unfold impl_IsBall.f
  refine Ev.bindv (impl_isPrime_eq p) ?_
  unfold ballB
  cases hp : primeB p with
  | false => simpa using hno
  | true =>
    have hp2 := prime_lo hp
    simp only [if_true, Bool.true_and]
    refine Ev.bindv (impl_isLevel_eq L) ?_
    by_cases hL : -6 ≤ L ∧ L ≤ 6
    · rw [decide_eq_true hL]; simp only [if_true, Bool.true_and]
      by_cases hD0 : D < 0
      · rw [decide_eq_false (show ¬ (0 ≤ D ∧ D ≤ 6) by omega)]; simp only [if_pos hD0, Bool.false_and]; exact hno
      simp only [if_neg hD0]
      by_cases hD : 0 ≤ D ∧ D ≤ 6
      · rw [decide_eq_true hD, decide_eq_false (show ¬ D > 6 by omega)]; simp only [Bool.true_and]
        have hn := wid (n := L + D) (by omega) (by omega)
        by_cases h0 : L + D ≤ 0
        · rw [if_pos h0]
          refine Ev.step (f := fun _ => some (T == 0 && D == 0)) (fun k => ?_) (Ev.now _)
          simp only [impl_IsBall.j0]
          rw [if_neg (by decide), hn, if_pos h0]
          by_cases hT : T = 0
          · simp [hT]
          · simp [hT]
        · rw [if_neg h0]
          by_cases hT0 : T ≥ 0
          · refine Ev.step (f := fun k => (impl_power.f k p (L + D)).bind fun t => if T < t then (if D = 0 then some true else if p = 0 then none else some (Int.tmod T p != 0)) else some false) (fun k => by simp only [impl_IsBall.j0]; rw [if_neg (by decide), hn, if_neg h0, if_pos hT0]) ?_
            refine Ev.bind (impl_power_ev p (L + D) (by omega)) ?_
            rw [powW_prime hp _ (by omega)]
            by_cases hT1 : T < p ^ (L + D).toNat
            · rw [if_pos hT1, decide_eq_true (show 0 ≤ T ∧ T < p ^ (L + D).toNat from ⟨hT0, hT1⟩), Bool.true_and]
              by_cases hd : D = 0
              · simp only [hd, if_true]; simp; exact Ev.now _
              · rw [if_neg hd, if_neg (by omega), show (D == 0) = false from beq_eq_false_iff_ne.2 hd, Bool.false_or]
                exact Ev.now _
            · rw [if_neg hT1, decide_eq_false (show ¬ (0 ≤ T ∧ T < p ^ (L + D).toNat) from fun h => hT1 h.2), Bool.false_and]
              exact Ev.now _
          · rw [decide_eq_false (show ¬ (0 ≤ T ∧ T < p ^ (L + D).toNat) from fun h => hT0 h.1), Bool.false_and]
            refine Ev.step (f := fun _ => some false) (fun k => ?_) (Ev.now _)
            simp only [impl_IsBall.j0]
            rw [if_neg (by decide), hn, if_neg h0, if_neg hT0]
      · rw [decide_eq_false hD, decide_eq_true (show D > 6 by omega)]; simpa using hno
    · rw [decide_eq_false hL]; simpa using hno

-- block impl_mark
theorem impl_mark_ev {p L T D : Int} (h : ballB p L T D = true) : Ev (fun k => impl_mark.f k p L T D) (markOf p T D) := by
  obtain ⟨hp, hL, hD, _, _⟩ := ball_parts h
  have hp2 := prime_lo hp
  obtain ⟨m0, m1⟩ := mark_lt h
  have m2 := pow_13 hp (L + 6).toNat (by omega)
  unfold impl_mark.f
  rw [wid (n := 6 - D) (by omega) (by omega)]
  refine Ev.bind (impl_power_ev p _ (by omega)) ?_
  rw [powW_prime hp _ (by omega), show T * p ^ (6 - D).toNat = markOf p T D from rfl, wid (by omega) (by omega)]
  exact Ev.now _

-- block impl_holds
theorem impl_holds_ev {p L T D L' T' D' : Int} (h : ballB p L T D = true) (h' : ballB p L' T' D' = true) : Ev (fun k => impl_holds.f k p L T D L' T' D') (holdsB p L T D L' T' D') := by
  obtain ⟨hp, hL, _⟩ := ball_parts h
  have hp2 := prime_lo hp
  have hL' := (ball_parts h').2.1
  obtain ⟨a0, a1⟩ := mark_lt h
  obtain ⟨b0, b1⟩ := mark_lt h'
  have m2 := pow_13 hp (L + 6).toNat (by omega)
  have m2' := pow_13 hp (L' + 6).toNat (by omega)
  have m1 := ipow_pos (p := p) (by omega) (L + 6).toNat
  unfold impl_holds.f holdsB
  by_cases hle : L ≤ L'
  · simp only [if_pos hle, decide_eq_true hle, Bool.true_and]
    refine Ev.bind (impl_mark_ev h') (Ev.bind (impl_mark_ev h) ?_)
    rw [wid (n := L + 6) (by omega) (by omega)]
    refine Ev.bind (impl_power_ev p _ (by omega)) ?_
    rw [powW_prime hp _ (by omega), wid (n := markOf p T' D' - markOf p T D) (by omega) (by omega)]
    simp only [if_neg (show ¬ p ^ (L + 6).toNat = 0 by omega)]
    rw [show (Int.tmod (markOf p T' D' - markOf p T D) (p ^ (L + 6).toNat) == 0) = ((markOf p T' D' - markOf p T D) % p ^ (L + 6).toNat == 0) from by
      rw [Bool.eq_iff_iff, beq_iff_eq, beq_iff_eq, ← Int.dvd_iff_tmod_eq_zero, ← Int.dvd_iff_emod_eq_zero]]
    exact Ev.now _
  · simp only [if_neg hle, decide_eq_false hle, Bool.false_and]; exact Ev.now _

-- block impl_areBalls
theorem impl_areBalls_ev (p : Int) (l : List S29) (hl : l.length ≤ 4611686018427387904) : Ev (fun k => impl_areBalls.f k p l) (primeB p && l.all (fun b => ballB p b.f0 b.f1 b.f2)) := by
  unfold impl_areBalls.f
  have hr : ∀ (i : Nat) (k : Nat), i < l.length → impl_areBalls.l0 (k + 1) p l l.length i = (impl_IsBall.f k p (l.getD i z29).f0 (l.getD i z29).f1 (l.getD i z29).f2).bind fun t => if t = true then impl_areBalls.l0 k p l l.length ((i : Int) + 1) else some false := by
    intro i k hi
    simp only [impl_areBalls.l0]
    rw [if_pos (by omega), if_pos (by omega), if_pos (by omega), wid (by omega) (by omega)]; rfl
  have := all_ev' (fun k i => impl_areBalls.l0 k p l l.length i) l.length (fun i => ballB p (l.getD i z29).f0 (l.getD i z29).f1 (l.getD i z29).f2) (primeB p) false (by
    intro i r hi hb hr'
    refine Ev.step (hr i · hi) (Ev.bind (impl_IsBall_ev _ _ _ _) ?_)
    rw [hb]; simpa using hr') (by
    intro i hi hb
    refine Ev.step (hr i · hi) (Ev.bind (impl_IsBall_ev _ _ _ _) ?_)
    rw [hb]; simp; exact Ev.now _) (by
    refine Ev.step (f := fun _ => (impl_isPrime.f p).bind fun t => some t) (fun k => by simp only [impl_areBalls.l0]; rw [if_neg (by omega)]) ?_
    exact Ev.bindv (impl_isPrime_eq p) (Ev.now _))
  rw [all_range_getD l z29 (fun b => ballB p b.f0 b.f1 b.f2)] at this
  rw [show (primeB p && l.all (fun b => ballB p b.f0 b.f1 b.f2)) = (if l.all (fun b => ballB p b.f0 b.f1 b.f2) = true then primeB p else false) from by cases l.all (fun b => ballB p b.f0 b.f1 b.f2) <;> simp]
  exact this

theorem mx_max3 (a b : Int) : mx a b = max a b := by unfold mx; split <;> omega
theorem pow_14 {p : Int} (hp : primeB p = true) (n : Nat) (h : n ≤ 13) : p ^ n ≤ 96889010407 := by
  have hp2 := prime_lo hp
  have h1 : p ^ n ≤ p ^ 13 := ipow_mono (by omega) h
  have h2 : p ^ 13 ≤ 96889010407 := by rcases prime_cases hp with rfl | rfl | rfl | rfl <;> decide
  omega
theorem mulB {x y M N : Int} (hx : 0 ≤ x ∧ x ≤ M) (hy : 0 ≤ y ∧ y ≤ N) : 0 ≤ x * y ∧ x * y ≤ M * N :=
  ⟨Int.mul_nonneg hx.1 hy.1, Int.mul_le_mul hx.2 hy.2 hy.1 (by omega)⟩
section
variable {p La Sa Da Lb Tb Db : Int} (h : ballB p La Sa Da = true) (h' : ballB p Lb Tb Db = true)
def pmW (p La Sa Da Lb Tb Db : Int) : Int × Int × Int × Int × Bool :=
  if fitM (pmA p Tb Da (La + Lb - 1)) (pmB p Sa Tb Da Db (La + Lb - 1)) (pmC p Da Db (La + Lb - 1)) (pmD p Sa Db (La + Lb - 1)) then
    (rM (pmA p Tb Da (La + Lb - 1)) (pmB p Sa Tb Da Db (La + Lb - 1)) (pmC p Da Db (La + Lb - 1)) (pmD p Sa Db (La + Lb - 1)) (pmA p Tb Da (La + Lb - 1)),
     rM (pmA p Tb Da (La + Lb - 1)) (pmB p Sa Tb Da Db (La + Lb - 1)) (pmC p Da Db (La + Lb - 1)) (pmD p Sa Db (La + Lb - 1)) (pmB p Sa Tb Da Db (La + Lb - 1)),
     rM (pmA p Tb Da (La + Lb - 1)) (pmB p Sa Tb Da Db (La + Lb - 1)) (pmC p Da Db (La + Lb - 1)) (pmD p Sa Db (La + Lb - 1)) (pmC p Da Db (La + Lb - 1)),
     rM (pmA p Tb Da (La + Lb - 1)) (pmB p Sa Tb Da Db (La + Lb - 1)) (pmC p Da Db (La + Lb - 1)) (pmD p Sa Db (La + Lb - 1)) (pmD p Sa Db (La + Lb - 1)), true)
  else (0, 0, 0, 0, false)
/-- The number over a power of p with which the program begins. -/
def pmN (p La Sa Da Lb Tb Db : Int) : Int := if La + Lb - 1 + (Da + Db) ≥ 0 then p ^ (La + Lb - 1 + (Da + Db)).toNat - Sa * Tb else 1 - Sa * Tb * p ^ (-(La + Lb - 1 + (Da + Db))).toNat
def pmE (La Da Lb Db : Int) : Nat := if La + Lb - 1 + (Da + Db) ≥ 0 then (Da + Db).toNat else (-(La + Lb - 1)).toNat
include h h' in
theorem pm_rel : pmB p Sa Tb Da Db (La + Lb - 1) * p ^ pmE La Da Lb Db = pmN p La Sa Da Lb Tb Db * pmC p Da Db (La + Lb - 1) := by
  obtain ⟨hp, hL, hD, _, _⟩ := ball_parts h
  obtain ⟨_, hL', hD', _, _⟩ := ball_parts h'
  unfold pmB pmC pmN pmE
  by_cases hu : La + Lb - 1 + (Da + Db) ≥ 0
  · rw [if_pos hu, if_pos hu]
    have e1 : p ^ (max (La + Lb - 1) 0).toNat * p ^ Da.toNat * p ^ Db.toNat = p ^ (La + Lb - 1 + (Da + Db)).toNat * p ^ (max (-(La + Lb - 1)) 0).toNat := by
      rw [← Int.pow_add, ← Int.pow_add, ← Int.pow_add]; congr 1; omega
    have e2 : p ^ (Da + Db).toNat = p ^ Da.toNat * p ^ Db.toNat := by rw [← Int.pow_add]; congr 1; omega
    rw [e1, e2, ← Int.sub_mul]
    ac_rfl
  · rw [if_neg hu, if_neg hu]
    have e0 : p ^ (max (La + Lb - 1) 0).toNat = 1 := by rw [show (max (La + Lb - 1) 0).toNat = 0 by omega, Int.pow_zero]
    have e1 : p ^ (max (-(La + Lb - 1)) 0).toNat = p ^ Da.toNat * p ^ Db.toNat * p ^ (-(La + Lb - 1 + (Da + Db))).toNat := by
      rw [← Int.pow_add, ← Int.pow_add]; congr 1; omega
    have e2 : p ^ (-(La + Lb - 1)).toNat = p ^ (max (-(La + Lb - 1)) 0).toNat := by congr 1; omega
    rw [e0, Int.one_mul, e2, e1]
    generalize p ^ Da.toNat = x
    generalize p ^ Db.toNat = y
    generalize p ^ (-(La + Lb - 1 + (Da + Db))).toNat = w
    rw [show Sa * Tb * (x * y * w) = x * y * (Sa * Tb * w) from by ac_rfl, show x * y - x * y * (Sa * Tb * w) = x * y * (1 - Sa * Tb * w) from by rw [Int.mul_sub, Int.mul_one]]
    ac_rfl
include h h' in
/-- If the matrix fits, so does all that the program looks at. -/
theorem pm_facts {num : Int} {n : Nat} (hn : n ≤ 1000) (hB : pmB p Sa Tb Da Db (La + Lb - 1) * p ^ n = num * pmC p Da Db (La + Lb - 1)) (hu : n = 0 ∨ ¬ p ∣ num)
    (hf : fitM (pmA p Tb Da (La + Lb - 1)) (pmB p Sa Tb Da Db (La + Lb - 1)) (pmC p Da Db (La + Lb - 1)) (pmD p Sa Db (La + Lb - 1)) = true) :
    (0 ≤ Tb ∧ Tb ≤ 1000) ∧ (0 ≤ Sa ∧ Sa ≤ 1000) ∧ p ^ (max (max Da.toNat Db.toNat) n) ≤ 1000 ∧ (-1000 ≤ num ∧ num ≤ 1000) := by
  obtain ⟨hp, hL, hD, _, _⟩ := ball_parts h
  obtain ⟨_, hL', hD', _, _⟩ := ball_parts h'
  have hp2 := prime_lo hp
  have s0 := (ball_num h).1
  have t0 := (ball_num h').1
  have us := ball_unit h
  have ut := ball_unit h'
  generalize hj : max (max Da.toNat Db.toNat) n = j
  obtain ⟨⟨r1, r2, r3, r4⟩, _⟩ := pm_same (S := Sa) (T := Tb) (j := j) hp hD.1 hD'.1 hB (by omega) (by omega) (by omega)
  unfold fitM at hf
  rw [r1, r2, r3, r4] at hf
  have g1 : g4 (Tb * p ^ (j - Db.toNat)) (num * p ^ (j - n)) (p ^ j) (-Sa * p ^ (j - Da.toNat)) = 1 := by
    refine g4_one hp j ?_
    by_cases j0 : j = 0
    · exact .inl j0
    · right
      rcases (show j = Db.toNat ∨ j = n ∨ j = Da.toNat by omega) with e | e | e
      · left
        rw [show j - Db.toNat = 0 by omega, Int.pow_zero, Int.mul_one]
        exact ut.resolve_left (by omega)
      · right; left
        rw [show j - n = 0 by omega, Int.pow_zero, Int.mul_one]
        exact hu.resolve_left (by omega)
      · right; right
        rw [show j - Da.toNat = 0 by omega, Int.pow_zero, Int.mul_one]
        intro hd
        exact us.resolve_left (by omega) (Int.dvd_neg.1 hd)
  obtain ⟨f1, f2, f3, f4⟩ := fit_one g1 hf
  have q1 := ipow_pos (show 1 ≤ p by omega) (j - Db.toNat)
  have q2 := ipow_pos (show 1 ≤ p by omega) (j - n)
  have q4 := ipow_pos (show 1 ≤ p by omega) (j - Da.toNat)
  have k1 := Int.mul_nonneg t0 (show 0 ≤ p ^ (j - Db.toNat) - 1 by omega)
  have k4 := Int.mul_nonneg s0 (show 0 ≤ p ^ (j - Da.toNat) - 1 by omega)
  rw [Int.mul_sub] at k1 k4
  rw [Int.neg_mul] at f4
  refine ⟨⟨t0, by omega⟩, ⟨s0, by omega⟩, f3.2, ?_⟩
  by_cases hn0 : 0 ≤ num
  · have k2 := Int.mul_nonneg hn0 (show 0 ≤ p ^ (j - n) - 1 by omega)
    rw [Int.mul_sub] at k2
    omega
  · have k2 := Int.mul_nonneg (show 0 ≤ -num by omega) (show 0 ≤ p ^ (j - n) - 1 by omega)
    rw [Int.mul_sub, Int.neg_mul] at k2
    omega
include h h' in
theorem pm_small (hf : fitM (pmA p Tb Da (La + Lb - 1)) (pmB p Sa Tb Da Db (La + Lb - 1)) (pmC p Da Db (La + Lb - 1)) (pmD p Sa Db (La + Lb - 1)) = true) :
    (0 ≤ Tb ∧ Tb ≤ 1000) ∧ (0 ≤ Sa ∧ Sa ≤ 1000) ∧ p ^ (max Da.toNat Db.toNat) ≤ 1000 ∧ La + Lb - 1 + (Da + Db) ≤ 19 := by
  obtain ⟨hp, hL, hD, _, _⟩ := ball_parts h
  obtain ⟨_, hL', hD', _, _⟩ := ball_parts h'
  have hp2 := prime_lo hp
  have us := ball_unit h
  have ut := ball_unit h'
  have hE : pmE La Da Lb Db ≤ 1000 := by unfold pmE; split <;> omega
  obtain ⟨num, n, n1, n2, n3, n4, _⟩ := pm_norm hp (pmB p Sa Tb Da Db (La + Lb - 1)) (pmC p Da Db (La + Lb - 1)) La Sa Da Lb Tb Db (pmE La Da Lb Db) (pmN p La Sa Da Lb Tb Db) (by omega) (pm_rel h h')
  obtain ⟨a1, a2, a3, a4⟩ := pm_facts h h' (by omega) n2 n3 hf
  have hm : p ^ (max Da.toNat Db.toNat) ≤ 1000 := by
    have := ipow_mono (p := p) (by omega) (show max Da.toNat Db.toNat ≤ max (max Da.toNat Db.toNat) n by omega)
    omega
  refine ⟨a1, a2, hm, ?_⟩
  apply Decidable.byContradiction
  intro hup
  have hDD : 0 < Da ∧ 0 < Db := by omega
  have hs := us.resolve_left (by omega)
  have ht := ut.resolve_left (by omega)
  have hN : pmN p La Sa Da Lb Tb Db = p ^ (La + Lb - 1 + (Da + Db)).toNat - Sa * Tb := by unfold pmN; rw [if_pos (by omega)]
  have hC : pmC p Da Db (La + Lb - 1) ≠ 0 := by
    have hpos : ∀ n : Nat, p ^ n ≠ 0 := fun n => Int.pow_ne_zero (by omega)
    unfold pmC
    intro h
    simp only [Int.mul_eq_zero] at h
    rcases h with (h | h) | h <;> exact hpos _ h
  have hnd : ¬ p ∣ pmN p La Sa Da Lb Tb Db := by
    intro hd
    rw [hN] at hd
    have h1 : p ∣ p ^ (La + Lb - 1 + (Da + Db)).toNat := ⟨p ^ ((La + Lb - 1 + (Da + Db)).toNat - 1), by rw [← Int.pow_succ']; congr 1; omega⟩
    have h2 : p ∣ Sa * Tb := by
      have := Int.dvd_sub h1 hd
      rwa [Int.sub_sub_self] at this
    have h3 : p.natAbs ∣ Sa.natAbs * Tb.natAbs := by rw [← Int.natAbs_mul]; exact Int.natAbs_dvd_natAbs.2 h2
    have h4 : Nat.Coprime p.natAbs Sa.natAbs := by rw [Nat.coprime_comm]; exact cop hp hs
    exact ht (Int.natAbs_dvd_natAbs.1 (Nat.Coprime.dvd_of_dvd_mul_left h4 h3))
  have hnn : num * p ^ (pmE La Da Lb Db - n) = pmN p La Sa Da Lb Tb Db := by
    refine Int.eq_of_mul_eq_mul_right hC ?_
    rw [← pm_rel h h', show num * p ^ (pmE La Da Lb Db - n) * pmC p Da Db (La + Lb - 1) = num * pmC p Da Db (La + Lb - 1) * p ^ (pmE La Da Lb Db - n) from by ac_rfl, ← n2, Int.mul_assoc, ← Int.pow_add]
    congr 2; omega
  have hnE : pmE La Da Lb Db - n = 0 := by
    apply Decidable.byContradiction
    intro h0
    exact hnd (hnn ▸ ⟨num * p ^ (pmE La Da Lb Db - n - 1), by
      rw [show p * (num * p ^ (pmE La Da Lb Db - n - 1)) = num * (p ^ (pmE La Da Lb Db - n - 1) * p) from by ac_rfl, ← Int.pow_succ]
      congr 2; omega⟩)
  rw [hnE, Int.pow_zero, Int.mul_one, hN] at hnn
  have hpw : (1048576 : Int) ≤ p ^ (La + Lb - 1 + (Da + Db)).toNat := by
    have h1 := ipow_mono (p := p) (by omega) (show 20 ≤ (La + Lb - 1 + (Da + Db)).toNat by omega)
    have h2 : (1048576 : Int) ≤ p ^ 20 := by rcases prime_cases hp with rfl | rfl | rfl | rfl <;> decide
    omega
  have := mulB a2 a1
  omega
include h h' in
theorem spec_l09Paired_ev : Ev (fun k => spec_l09Paired.f k p La Sa Da Lb Tb Db) (pmW p La Sa Da Lb Tb Db) := by
  obtain ⟨hp, hL, hD, hz, hS⟩ := ball_parts h
  obtain ⟨_, hL', hD', hz', hS'⟩ := ball_parts h'
  have hp2 := prime_lo hp
  have s0 := ball_num h
  have t0 := ball_num h'
  have stop (nf : fitM (pmA p Tb Da (La + Lb - 1)) (pmB p Sa Tb Da Db (La + Lb - 1)) (pmC p Da Db (La + Lb - 1)) (pmD p Sa Db (La + Lb - 1)) ≠ true) (m : Int) : Ev (fun k => spec_l09Paired.j0 k p m true La Sa Da Lb Tb Db) (pmW p La Sa Da Lb Tb Db) := by
    unfold pmW
    rw [if_neg nf]
    refine Ev.up ?_
    simp only [spec_l09Paired.j0, if_true]
    exact Ev.now _
  unfold spec_l09Paired.f
  rw [wid (n := La + Lb) (by omega) (by omega), wid (n := La + Lb - 1) (by omega) (by omega), wid (n := Da + Db) (by omega) (by omega)]
  by_cases c1 : Sa > 1000000
  · simp only [if_pos c1]
    exact stop (fun hf => by have := (pm_small h h' hf).2.1; omega) _
  simp only [if_neg c1]
  by_cases c2 : Tb > 1000000
  · simp only [if_pos c2]
    exact stop (fun hf => by have := (pm_small h h' hf).1; omega) _
  simp only [if_neg c2]
  have main (h7 : p = 7 → Da + Db ≠ 12) : Ev (fun k => spec_l09Paired.j0 k p (La + Lb - 1) false La Sa Da Lb Tb Db) (pmW p La Sa Da Lb Tb Db) := by
    refine Ev.up ?_
    simp only [spec_l09Paired.j0, Bool.false_eq_true, if_false, mx_max3]
    rw [wid (n := -(La + Lb - 1)) (by omega) (by omega)]
    refine Ev.bind (spec_l01Power_ev p _ (by omega)) (Ev.bind (spec_l01Power_ev p _ (by omega)) (Ev.bind (spec_l01Power_ev p _ (by omega)) (Ev.bind (spec_l01Power_ev p _ (by omega)) ?_)))
    rw [powW_prime hp _ (by omega), powW_prime hp _ (by omega), powW_prime hp _ (by omega), powW_prime hp _ (by omega)]
    have px := ipow_pos (show 1 ≤ p by omega) Da.toNat
    have py := ipow_pos (show 1 ≤ p by omega) Db.toNat
    have pu := ipow_pos (show 1 ≤ p by omega) (max (La + Lb - 1) 0).toNat
    have pz := ipow_pos (show 1 ≤ p by omega) (max (-(La + Lb - 1)) 0).toNat
    have bx := pow_6 hp Da.toNat (by omega)
    have by_ := pow_6 hp Db.toNat (by omega)
    have bu := pow_13 hp (max (La + Lb - 1) 0).toNat (by omega)
    have bz := pow_14 hp (max (-(La + Lb - 1)) 0).toNat (by omega)
    have bxyz : p ^ Da.toNat * p ^ Db.toNat * p ^ (max (-(La + Lb - 1)) 0).toNat ≤ 3909821048582988049 := by
      rw [← Int.pow_add, ← Int.pow_add]
      refine pow_b hp _ ?_
      have i1 : La + Da ≤ 0 → Da = 0 := fun x => (hz x).2
      have i2 : Lb + Db ≤ 0 → Db = 0 := fun x => (hz' x).2
      have i3 : p ≠ 7 ∨ Da + Db ≠ 12 := by by_cases e : p = 7; exact .inr (h7 e); exact .inl e
      clear hS hS' stop
      rcases i3 with i3 | i3
      · right; refine ⟨?_, i3⟩; omega
      · left; omega
    have buxy : p ^ (max (La + Lb - 1) 0).toNat * p ^ Da.toNat * p ^ Db.toNat ≤ 3909821048582988049 := by
      rw [← Int.pow_add, ← Int.pow_add]
      refine pow_b hp _ ?_
      have i3 : p ≠ 7 ∨ Da + Db ≠ 12 := by by_cases e : p = 7; exact .inr (h7 e); exact .inl e
      clear hS hS' stop
      rcases i3 with i3 | i3
      · right; refine ⟨?_, i3⟩; omega
      · left; omega
    have bux : 0 ≤ p ^ (max (La + Lb - 1) 0).toNat * p ^ Da.toNat ∧ p ^ (max (La + Lb - 1) 0).toNat * p ^ Da.toNat ≤ 13841287201 * 117649 := mulB ⟨by omega, bu⟩ ⟨by omega, bx⟩
    have bxy : 0 ≤ p ^ Da.toNat * p ^ Db.toNat ∧ p ^ Da.toNat * p ^ Db.toNat ≤ 117649 * 117649 := mulB ⟨by omega, bx⟩ ⟨by omega, by_⟩
    have btx : 0 ≤ Tb * p ^ Da.toNat ∧ Tb * p ^ Da.toNat ≤ 1000000 * 117649 := mulB ⟨t0.1, by omega⟩ ⟨by omega, bx⟩
    have bsy : 0 ≤ Sa * p ^ Db.toNat ∧ Sa * p ^ Db.toNat ≤ 1000000 * 117649 := mulB ⟨s0.1, by omega⟩ ⟨by omega, by_⟩
    have bst : 0 ≤ Sa * Tb ∧ Sa * Tb ≤ 1000000 * 1000000 := mulB ⟨s0.1, by omega⟩ ⟨t0.1, by omega⟩
    have zx := Int.mul_nonneg bxy.1 (show 0 ≤ p ^ (max (-(La + Lb - 1)) 0).toNat by omega)
    have zu := Int.mul_nonneg bux.1 (show 0 ≤ p ^ Db.toNat by omega)
    -- a top is less than its power, if it is not 0
    have top {L T D : Int} (hb : ballB p L T D = true) : T = 0 ∨ (0 < L + D ∧ T ≤ p ^ (L + D).toNat) := by
      obtain ⟨_, _, _, y1, y2⟩ := ball_parts hb
      by_cases y : L + D ≤ 0
      · exact .inl (y1 y).1
      · exact .inr ⟨by omega, by have := (y2 (by omega)).1; omega⟩
    have btxz : 0 ≤ Tb * p ^ Da.toNat * p ^ (max (-(La + Lb - 1)) 0).toNat ∧ Tb * p ^ Da.toNat * p ^ (max (-(La + Lb - 1)) 0).toNat ≤ 3909821048582988049 := by
      refine ⟨Int.mul_nonneg btx.1 (by omega), ?_⟩
      rcases top h' with e | ⟨e1, e2⟩
      · rw [e]; simp
      · by_cases he : La + Lb - 1 ≥ 0
        · rw [show (max (-(La + Lb - 1)) 0).toNat = 0 by omega, Int.pow_zero, Int.mul_one]; omega
        · have q1 := mulB ⟨t0.1, e2⟩ ⟨show 0 ≤ p ^ Da.toNat by omega, Int.le_refl _⟩
          have q2 := mulB q1 ⟨show 0 ≤ p ^ (max (-(La + Lb - 1)) 0).toNat by omega, Int.le_refl _⟩
          rw [← Int.pow_add, ← Int.pow_add] at q2
          have q3 := pow_b hp ((Lb + Db).toNat + Da.toNat + (max (-(La + Lb - 1)) 0).toNat) (.inl (by omega))
          omega
    have bsyz : 0 ≤ Sa * p ^ Db.toNat * p ^ (max (-(La + Lb - 1)) 0).toNat ∧ Sa * p ^ Db.toNat * p ^ (max (-(La + Lb - 1)) 0).toNat ≤ 3909821048582988049 := by
      refine ⟨Int.mul_nonneg bsy.1 (by omega), ?_⟩
      rcases top h with e | ⟨e1, e2⟩
      · rw [e]; simp
      · by_cases he : La + Lb - 1 ≥ 0
        · rw [show (max (-(La + Lb - 1)) 0).toNat = 0 by omega, Int.pow_zero, Int.mul_one]; omega
        · have q1 := mulB ⟨s0.1, e2⟩ ⟨show 0 ≤ p ^ Db.toNat by omega, Int.le_refl _⟩
          have q2 := mulB q1 ⟨show 0 ≤ p ^ (max (-(La + Lb - 1)) 0).toNat by omega, Int.le_refl _⟩
          rw [← Int.pow_add, ← Int.pow_add] at q2
          have q3 := pow_b hp ((La + Da).toNat + Db.toNat + (max (-(La + Lb - 1)) 0).toNat) (.inl (by omega))
          omega
    have bstz : 0 ≤ Sa * Tb * p ^ (max (-(La + Lb - 1)) 0).toNat ∧ Sa * Tb * p ^ (max (-(La + Lb - 1)) 0).toNat ≤ 96889010407000000 := by
      refine ⟨Int.mul_nonneg bst.1 (by omega), ?_⟩
      rcases top h with e | ⟨e1, e2⟩
      · rw [e]; simp
      · rcases top h' with e' | ⟨e1', e2'⟩
        · rw [e']; simp
        · by_cases he : La + Lb - 1 ≥ 0
          · rw [show (max (-(La + Lb - 1)) 0).toNat = 0 by omega, Int.pow_zero, Int.mul_one]; omega
          · have q1 := mulB ⟨s0.1, e2⟩ ⟨t0.1, e2'⟩
            have q2 := mulB q1 ⟨show 0 ≤ p ^ (max (-(La + Lb - 1)) 0).toNat by omega, Int.le_refl _⟩
            rw [← Int.pow_add, ← Int.pow_add] at q2
            have q3 := pow_14 hp ((La + Da).toNat + (Lb + Db).toNat + (max (-(La + Lb - 1)) 0).toNat) (by omega)
            omega
    have eD : -Sa * p ^ Db.toNat = -(Sa * p ^ Db.toNat) := Int.neg_mul _ _
    have eD2 : -(Sa * p ^ Db.toNat) * p ^ (max (-(La + Lb - 1)) 0).toNat = -(Sa * p ^ Db.toNat * p ^ (max (-(La + Lb - 1)) 0).toNat) := Int.neg_mul _ _
    rw [wid (n := Tb * p ^ Da.toNat) (by omega) (by omega), wid (n := Tb * p ^ Da.toNat * p ^ (max (-(La + Lb - 1)) 0).toNat) (by omega) (by omega),
      wid (n := p ^ (max (La + Lb - 1) 0).toNat * p ^ Da.toNat) (by omega) (by omega), wid (n := p ^ (max (La + Lb - 1) 0).toNat * p ^ Da.toNat * p ^ Db.toNat) (by omega) (by omega),
      wid (n := Sa * Tb) (by omega) (by omega), wid (n := Sa * Tb * p ^ (max (-(La + Lb - 1)) 0).toNat) (by omega) (by omega),
      wid (n := p ^ (max (La + Lb - 1) 0).toNat * p ^ Da.toNat * p ^ Db.toNat - Sa * Tb * p ^ (max (-(La + Lb - 1)) 0).toNat) (by omega) (by omega),
      wid (n := p ^ Da.toNat * p ^ Db.toNat) (by omega) (by omega), wid (n := p ^ Da.toNat * p ^ Db.toNat * p ^ (max (-(La + Lb - 1)) 0).toNat) (by omega) (by omega),
      wid (n := -Sa) (by omega) (by omega), wid (n := -Sa * p ^ Db.toNat) (by omega) (by omega), wid (n := -Sa * p ^ Db.toNat * p ^ (max (-(La + Lb - 1)) 0).toNat) (by rw [eD, eD2]; omega) (by rw [eD, eD2]; omega)]
    have hne := rowNe (pm_det hp2 Sa Tb Da Db (La + Lb - 1))
    have := paired_l0 (A := pmA p Tb Da (La + Lb - 1)) (B := pmB p Sa Tb Da Db (La + Lb - 1)) (C := pmC p Da Db (La + Lb - 1)) (D := pmD p Sa Db (La + Lb - 1))
      (by unfold bd62 pmA; omega) (by unfold bd62 pmB; omega) (by unfold bd62 pmC; omega) (by unfold bd62 pmD; rw [eD, eD2]; omega) hne
    exact this
  by_cases c3 : p = 7
  · simp only [if_pos c3]
    by_cases c4 : Da + Db = 12
    · rw [c4]
      refine stop (fun hf => ?_) _
      have h1 := (pm_small h h' hf).2.2.1
      rw [show max Da.toNat Db.toNat = 6 by omega, c3] at h1
      exact absurd h1 (by decide)
    · rw [show (Da + Db == 12) = false from beq_eq_false_iff_ne.2 c4]
      exact main (fun _ => c4)
  · simp only [if_neg c3]
    exact main (fun e => absurd e c3)
include h h' in
theorem impl_pm_ev : Ev (fun k => impl_PairedMover.j0 k p false La Sa Da Lb Tb Db) (if (pmW p La Sa Da Lb Tb Db).2.2.2.2 = true then ((pmW p La Sa Da Lb Tb Db).1, (pmW p La Sa Da Lb Tb Db).2.1, (pmW p La Sa Da Lb Tb Db).2.2.1, (pmW p La Sa Da Lb Tb Db).2.2.2.1, 0) else (0, 0, 0, 0, 3)) ∨ 1000 < Sa ∨ 1000 < Tb := by
  obtain ⟨hp, hL, hD, hz, hS⟩ := ball_parts h
  obtain ⟨_, hL', hD', hz', hS'⟩ := ball_parts h'
  have hp2 := prime_lo hp
  have s0 := ball_num h
  have t0 := ball_num h'
  by_cases c1 : 1000 < Sa
  · exact .inr (.inl c1)
  by_cases c2 : 1000 < Tb
  · exact .inr (.inr c2)
  left
  have res (nf : fitM (pmA p Tb Da (La + Lb - 1)) (pmB p Sa Tb Da Db (La + Lb - 1)) (pmC p Da Db (La + Lb - 1)) (pmD p Sa Db (La + Lb - 1)) ≠ true) : (if (pmW p La Sa Da Lb Tb Db).2.2.2.2 = true then ((pmW p La Sa Da Lb Tb Db).1, (pmW p La Sa Da Lb Tb Db).2.1, (pmW p La Sa Da Lb Tb Db).2.2.1, (pmW p La Sa Da Lb Tb Db).2.2.2.1, (0 : Int)) else (0, 0, 0, 0, 3)) = (0, 0, 0, 0, 3) := by
    unfold pmW; rw [if_neg nf]; rfl
  have hE : pmE La Da Lb Db ≤ 1000 := by unfold pmE; split <;> omega
  obtain ⟨num, n, n1, n2, n3, n4, n5⟩ := pm_norm hp (pmB p Sa Tb Da Db (La + Lb - 1)) (pmC p Da Db (La + Lb - 1)) La Sa Da Lb Tb Db (pmE La Da Lb Db) (pmN p La Sa Da Lb Tb Db) (by omega) (pm_rel h h')
  have bst : 0 ≤ Sa * Tb ∧ Sa * Tb ≤ 1000 * 1000 := mulB ⟨s0.1, by omega⟩ ⟨t0.1, by omega⟩
  generalize hr : (if (pmW p La Sa Da Lb Tb Db).2.2.2.2 = true then ((pmW p La Sa Da Lb Tb Db).1, (pmW p La Sa Da Lb Tb Db).2.1, (pmW p La Sa Da Lb Tb Db).2.2.1, (pmW p La Sa Da Lb Tb Db).2.2.2.1, (0 : Int)) else (0, 0, 0, 0, 3)) = r at res
  have j5stop (nf : fitM (pmA p Tb Da (La + Lb - 1)) (pmB p Sa Tb Da Db (La + Lb - 1)) (pmC p Da Db (La + Lb - 1)) (pmD p Sa Db (La + Lb - 1)) ≠ true) (J : Int) : Ev (fun k => impl_PairedMover.j5 k p num n J true La Sa Da Lb Tb Db) r := by
    rw [res nf]
    refine Ev.up ?_
    simp only [impl_PairedMover.j5, if_true]
    exact Ev.now _
  have hJ : mx (mx Da Db) n = ((max (max Da.toNat Db.toNat) n : Nat) : Int) := by rw [mx_max3, mx_max3]; omega
  have j4 : Ev (fun k => impl_PairedMover.j4 k p num n La Sa Da Lb Tb Db) r := by
    refine Ev.up ?_
    simp only [impl_PairedMover.j4, hJ]
    generalize hj : max (max Da.toNat Db.toNat) n = j
    have facts := fun hf => pm_facts h h' (by omega) n2 n3 hf
    rw [hj] at facts
    by_cases c3 : (j : Int) > 10
    · simp only [if_pos c3]
      refine j5stop (fun hf => ?_) _
      have h1 := (facts hf).2.2.1
      have h2 := ipow_mono (p := p) (by omega) (show 11 ≤ j by omega)
      have h3 : (1000 : Int) < p ^ 11 := by rcases prime_cases hp with rfl | rfl | rfl | rfl <;> decide
      omega
    simp only [if_neg c3]
    refine Ev.bind (impl_power_ev p _ (by omega)) ?_
    rw [powW_prime hp _ (by omega), Int.toNat_natCast]
    by_cases c4 : p ^ j > 1000
    · simp only [if_pos c4]
      exact j5stop (fun hf => by have := (facts hf).2.2.1; omega) _
    simp only [if_neg c4]
    refine Ev.bind (impl_within_ev 1000 [num] (by omega) (by omega) (by simp)) ?_
    simp only [List.all_cons, List.all_nil, Bool.and_true]
    by_cases c5 : -1000 ≤ num ∧ num ≤ 1000
    · rw [decide_eq_true c5]
      simp only [if_true]
      rw [wid (n := (j : Int) - (n : Int)) (by omega) (by omega)]
      refine Ev.bind (impl_power_ev p _ (by omega)) ?_
      rw [powW_prime hp _ (by omega), show ((j : Int) - (n : Int)).toNat = j - n by omega]
      have m1 := ipow_mono (p := p) (by omega) (show j - n ≤ j by omega)
      have m2 := ipow_mono (p := p) (by omega) (show j - Da.toNat ≤ j by omega)
      have m3 := ipow_mono (p := p) (by omega) (show j - Db.toNat ≤ j by omega)
      have o1 := ipow_pos (show 1 ≤ p by omega) (j - n)
      have o2 := ipow_pos (show 1 ≤ p by omega) (j - Da.toNat)
      have o3 := ipow_pos (show 1 ≤ p by omega) (j - Db.toNat)
      rw [decide_eq_false (show ¬ p ^ (j - n) > 1000 by omega)]
      obtain ⟨⟨r1, r2, r3, r4⟩, det2⟩ := pm_same (S := Sa) (T := Tb) (j := j) hp hD.1 hD'.1 n2 (by omega) (by omega) (by omega)
      refine Ev.up ?_
      simp only [impl_PairedMover.j5, Bool.false_eq_true, if_false]
      rw [wid (n := (j : Int) - Db) (by omega) (by omega), wid (n := (j : Int) - n) (by omega) (by omega), wid (n := (j : Int) - Da) (by omega) (by omega)]
      refine Ev.bind (impl_power_ev p _ (by omega)) (Ev.bind (impl_power_ev p _ (by omega)) (Ev.bind (impl_power_ev p _ (by omega)) (Ev.bind (impl_power_ev p _ (by omega)) ?_)))
      rw [powW_prime hp _ (by omega), powW_prime hp _ (by omega), powW_prime hp _ (by omega), powW_prime hp _ (by omega), show ((j : Int) - (n : Int)).toNat = j - n by omega, show ((j : Int) - Db).toNat = j - Db.toNat by omega, show ((j : Int) - Da).toNat = j - Da.toNat by omega, Int.toNat_natCast]
      have b1 : 0 ≤ Tb * p ^ (j - Db.toNat) ∧ Tb * p ^ (j - Db.toNat) ≤ 1000 * 1000 := mulB ⟨t0.1, by omega⟩ ⟨by omega, by omega⟩
      have b2 : 0 ≤ Sa * p ^ (j - Da.toNat) ∧ Sa * p ^ (j - Da.toNat) ≤ 1000 * 1000 := mulB ⟨s0.1, by omega⟩ ⟨by omega, by omega⟩
      have b3 := mul_bd (x := num) (y := p ^ (j - n)) (m := 1000) (n := 1000) c5.1 c5.2 (by omega) (by omega) (by omega) (by omega)
      have b4 : -Sa * p ^ (j - Da.toNat) = -(Sa * p ^ (j - Da.toNat)) := Int.neg_mul _ _
      rw [wid (n := Tb * p ^ (j - Db.toNat)) (by omega) (by omega), wid (n := num * p ^ (j - n)) (by omega) (by omega), wid (n := -Sa) (by omega) (by omega), wid (n := -Sa * p ^ (j - Da.toNat)) (by omega) (by omega)]
      refine Ev.bind (impl_reduced_ev (by unfold bd62; omega) (by unfold bd62; omega) (by unfold bd62; have := ipow_pos (show 1 ≤ p by omega) j; omega) (by unfold bd62; omega) (rowNe det2)) ?_
      rw [matB_red det2]
      have ef : fitM (Tb * p ^ (j - Db.toNat)) (num * p ^ (j - n)) (p ^ j) (-Sa * p ^ (j - Da.toNat)) = fitM (pmA p Tb Da (La + Lb - 1)) (pmB p Sa Tb Da Db (La + Lb - 1)) (pmC p Da Db (La + Lb - 1)) (pmD p Sa Db (La + Lb - 1)) := by
        unfold fitM; rw [r1, r2, r3, r4]
      rw [ef, ← r1, ← r2, ← r3, ← r4, ← hr]
      unfold impl_fittedMatrix.f pmW
      cases fitM (pmA p Tb Da (La + Lb - 1)) (pmB p Sa Tb Da Db (La + Lb - 1)) (pmC p Da Db (La + Lb - 1)) (pmD p Sa Db (La + Lb - 1)) with
      | true => simp only [if_true, Option.bind_some]; exact Ev.now _
      | false => simp only [Bool.false_eq_true, if_false, Option.bind_some]; exact Ev.now _
    · rw [decide_eq_false c5]
      simp only [Bool.false_eq_true, if_false]
      exact j5stop (fun hf => c5 (facts hf).2.2.2) _
  have l0 (hb : (pmN p La Sa Da Lb Tb Db).natAbs ≤ 4611686018427387904) : Ev (fun k => impl_PairedMover.j1 k p (pmN p La Sa Da Lb Tb Db) (pmE La Da Lb Db) La Sa Da Lb Tb Db) r := by
    refine Ev.up ?_
    simp only [impl_PairedMover.j1]
    exact n5 hb r j4
  refine Ev.up ?_
  simp only [impl_PairedMover.j0, Bool.false_eq_true, if_false]
  rw [wid (n := La + Lb) (by omega) (by omega), wid (n := La + Lb - 1) (by omega) (by omega), wid (n := Da + Db) (by omega) (by omega), wid (n := La + Lb - 1 + (Da + Db)) (by omega) (by omega)]
  by_cases c3 : La + Lb - 1 + (Da + Db) ≥ 0
  · simp only [if_pos c3]
    by_cases c4 : La + Lb - 1 + (Da + Db) > 19
    · simp only [if_pos c4]
      rw [res (fun hf => by have := (pm_small h h' hf).2.2.2; omega)]
      exact Ev.now _
    · simp only [if_neg c4]
      refine Ev.bind (impl_power_ev p _ (by omega)) ?_
      rw [powW_prime hp _ (by omega)]
      have k1 := pow_b hp (La + Lb - 1 + (Da + Db)).toNat (.inl (by omega))
      have k2 := ipow_pos (show 1 ≤ p by omega) (La + Lb - 1 + (Da + Db)).toNat
      rw [wid (n := Sa * Tb) (by omega) (by omega), wid (n := p ^ (La + Lb - 1 + (Da + Db)).toNat - Sa * Tb) (by omega) (by omega)]
      have e1 : pmN p La Sa Da Lb Tb Db = p ^ (La + Lb - 1 + (Da + Db)).toNat - Sa * Tb := by unfold pmN; rw [if_pos c3]
      have e2 : (pmE La Da Lb Db : Int) = Da + Db := by unfold pmE; rw [if_pos c3]; omega
      rw [← e1, ← e2]
      exact l0 (by rw [e1]; omega)
  · simp only [if_neg c3]
    rw [wid (n := -(La + Lb - 1 + (Da + Db))) (by omega) (by omega), wid (n := -(La + Lb - 1)) (by omega) (by omega)]
    refine Ev.bind (impl_power_ev p _ (by omega)) ?_
    rw [powW_prime hp _ (by omega)]
    have k1 := pow_14 hp (-(La + Lb - 1 + (Da + Db))).toNat (by omega)
    have k2 := ipow_pos (show 1 ≤ p by omega) (-(La + Lb - 1 + (Da + Db))).toNat
    have k3 : 0 ≤ Sa * Tb * p ^ (-(La + Lb - 1 + (Da + Db))).toNat ∧ Sa * Tb * p ^ (-(La + Lb - 1 + (Da + Db))).toNat ≤ 1000 * 1000 * 96889010407 := mulB bst ⟨by omega, k1⟩
    rw [wid (n := Sa * Tb) (by omega) (by omega), wid (n := Sa * Tb * p ^ (-(La + Lb - 1 + (Da + Db))).toNat) (by omega) (by omega), wid (n := 1 - Sa * Tb * p ^ (-(La + Lb - 1 + (Da + Db))).toNat) (by omega) (by omega)]
    have e1 : pmN p La Sa Da Lb Tb Db = 1 - Sa * Tb * p ^ (-(La + Lb - 1 + (Da + Db))).toNat := by unfold pmN; rw [if_neg c3]
    have e2 : (pmE La Da Lb Db : Int) = -(La + Lb - 1) := by unfold pmE; rw [if_neg c3]; omega
    rw [← e1, ← e2]
    exact l0 (by rw [e1]; omega)
end
theorem impl_apartB_ev {p L T D L' T' D' : Int} (hx : ballB p L T D = true) (hy : ballB p L' T' D' = true) : Ev (fun k => impl_apart.f k p L T D L' T' D') (!holdsB p L T D L' T' D' && !holdsB p L' T' D' L T D) := by
  unfold impl_apart.f
  refine Ev.bind (impl_holds_ev hx hy) ?_
  cases holdsB p L T D L' T' D' with
  | true => simp only [if_true, Bool.not_true, Bool.false_and]; exact Ev.now _
  | false =>
    simp only [Bool.false_eq_true, if_false, Bool.not_false, Bool.true_and]
    exact Ev.bind (impl_holds_ev hy hx) (Ev.now _)
theorem FnExactPairedMover : laws_FnExactPairedMover.Pure := by
  intro p La Sa Da Lb Tb Db _ _ _ _ _ _ _
  refine Ev.rounds ?_
  unfold laws_FnExactPairedMover.f
  simp only [laws_toBall.f, Option.bind_some]
  have hcode := spec_l01Code_ev p [(⟨La, Sa, Da⟩ : S29), ⟨Lb, Tb, Db⟩] (by simp)
  have hballs := impl_areBalls_ev p [(⟨La, Sa, Da⟩ : S29), ⟨Lb, Tb, Db⟩] (by simp)
  have main : ∃ r : Int × Int × Int × Int × Int, Ev (fun k => spec_PairedMover.f k p La Sa Da Lb Tb Db) r ∧ Ev (fun k => impl_PairedMover.f k p La Sa Da Lb Tb Db) r := by
    cases hc : codeB p [(⟨La, Sa, Da⟩ : S29), ⟨Lb, Tb, Db⟩] with
    | false =>
      rw [hc] at hcode
      refine ⟨(0, 0, 0, 0, 1), ?_, ?_⟩
      · unfold spec_PairedMover.f
        refine Ev.bind hcode ?_
        simp only [Bool.false_eq_true, if_false, if_neg (show ¬ (1 : Int) = 0 by decide)]
        exact Ev.now _
      · unfold impl_PairedMover.f
        unfold codeB at hc
        rw [hc] at hballs
        refine Ev.bind hballs ?_
        simp only [Bool.false_eq_true, if_false]
        exact Ev.now _
    | true =>
      rw [hc] at hcode
      have hb : ballB p La Sa Da = true ∧ ballB p Lb Tb Db = true := by
        unfold codeB at hc
        simp only [List.all_cons, List.all_nil, Bool.and_true, Bool.and_eq_true] at hc
        exact hc.2
      obtain ⟨h, h'⟩ := hb
      unfold codeB at hc
      rw [hc] at hballs
      have specj (x : Bool) (hx : (!holdsB p La Sa Da Lb Tb Db && !holdsB p Lb Tb Db La Sa Da) = !x) : Ev (fun k => spec_PairedMover.j0 k p x La Sa Da Lb Tb Db) (if x then (0, 0, 0, 0, 5) else if (pmW p La Sa Da Lb Tb Db).2.2.2.2 = true then ((pmW p La Sa Da Lb Tb Db).1, (pmW p La Sa Da Lb Tb Db).2.1, (pmW p La Sa Da Lb Tb Db).2.2.1, (pmW p La Sa Da Lb Tb Db).2.2.2.1, 0) else (0, 0, 0, 0, 3)) := by
        refine Ev.up ?_
        simp only [spec_PairedMover.j0]
        cases x with
        | true => simp only [if_true]; exact Ev.now _
        | false =>
          simp only [Bool.false_eq_true, if_false]
          refine Ev.bind (spec_l09Paired_ev h h') ?_
          by_cases hw : (pmW p La Sa Da Lb Tb Db).2.2.2.2 = true
          · simp only [if_pos hw]; exact Ev.now _
          · simp only [if_neg hw]; exact Ev.now _
      refine ⟨if (!holdsB p La Sa Da Lb Tb Db && !holdsB p Lb Tb Db La Sa Da) = true then (if (pmW p La Sa Da Lb Tb Db).2.2.2.2 = true then ((pmW p La Sa Da Lb Tb Db).1, (pmW p La Sa Da Lb Tb Db).2.1, (pmW p La Sa Da Lb Tb Db).2.2.1, (pmW p La Sa Da Lb Tb Db).2.2.2.1, 0) else (0, 0, 0, 0, 3)) else (0, 0, 0, 0, 5), ?_, ?_⟩
      · unfold spec_PairedMover.f
        refine Ev.bind hcode ?_
        simp only [if_true]
        refine Ev.bind (spec_l01Holds_ev h h') ?_
        cases h1 : holdsB p La Sa Da Lb Tb Db with
        | true =>
          have := specj true (by rw [h1]; rfl)
          simp only [if_true, Bool.not_true, Bool.false_and, Bool.false_eq_true, if_false] at this ⊢
          exact this
        | false =>
          simp only [Bool.false_eq_true, if_false, Bool.not_false, Bool.true_and]
          refine Ev.bind (spec_l01Holds_ev h' h) ?_
          cases h2 : holdsB p Lb Tb Db La Sa Da with
          | true =>
            have := specj true (by rw [h1, h2]; rfl)
            simp only [if_true, Bool.not_true, Bool.false_eq_true, if_false] at this ⊢
            exact this
          | false =>
            have := specj false (by rw [h1, h2]; rfl)
            simp only [Bool.not_false, Bool.false_eq_true, if_false, if_true] at this ⊢
            exact this
      · unfold impl_PairedMover.f
        refine Ev.bind hballs ?_
        simp only [if_true]
        refine Ev.bind (impl_apartB_ev h h') ?_
        cases (!holdsB p La Sa Da Lb Tb Db && !holdsB p Lb Tb Db La Sa Da) with
        | false => simp only [Bool.false_eq_true, if_false]; exact Ev.now _
        | true =>
          simp only [if_true]
          have lim (hbig : 1000 < Sa ∨ 1000 < Tb) : Ev (fun k => impl_PairedMover.j0 k p true La Sa Da Lb Tb Db) (if (pmW p La Sa Da Lb Tb Db).2.2.2.2 = true then ((pmW p La Sa Da Lb Tb Db).1, (pmW p La Sa Da Lb Tb Db).2.1, (pmW p La Sa Da Lb Tb Db).2.2.1, (pmW p La Sa Da Lb Tb Db).2.2.2.1, 0) else (0, 0, 0, 0, 3)) := by
            have nf : fitM (pmA p Tb Da (La + Lb - 1)) (pmB p Sa Tb Da Db (La + Lb - 1)) (pmC p Da Db (La + Lb - 1)) (pmD p Sa Db (La + Lb - 1)) ≠ true := fun hf => by
              have := pm_small h h' hf
              omega
            have e : pmW p La Sa Da Lb Tb Db = (0, 0, 0, 0, false) := by unfold pmW; rw [if_neg nf]
            rw [e]
            simp only [Bool.false_eq_true, if_false]
            refine Ev.up ?_
            simp only [impl_PairedMover.j0, if_true]
            exact Ev.now _
          by_cases c1 : Sa > 1000
          · simp only [if_pos c1]; exact lim (.inl c1)
          · simp only [if_neg c1]
            by_cases c2 : Tb > 1000
            · rw [decide_eq_true c2]; exact lim (.inr c2)
            · rw [decide_eq_false c2]
              rcases impl_pm_ev h h' with q | q
              · exact q
              · omega
  obtain ⟨r, r1, r2⟩ := main
  refine Ev.bind r1 (Ev.bind r2 (Ev.bind (laws_eqMatrix_ev _ _ _ _) ?_))
  simp only [if_true]
  exact Ev.now _

end Go.Proofs.Ytbelfnmmmllolab.Pure
