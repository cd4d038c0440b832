/- For every list of matrices and word, WordMatrix of the program and of the reference return the same matrix and code and leave both lists alone; no condition beyond the row's. -/
import Derived.Test.YtbelfnmmmllolaaQBx46
namespace Go.Proofs.Ytbelfnmmmllolaa.Pure
open Go.RowKit Go.Proofs.Ytbelfnmmmllolaa.QB Go.Proofs.YtbelfnmmmllolaaW.PrintWords Go.Proofs.YtbelfnmmmllolaaW.PrintLast
set_option linter.unusedVariables false
set_option linter.unusedSimpArgs false
set_option linter.unusedSectionVars false

-- block base
theorem wid {n : Int} (h0 : -9223372036854775808 ≤ n) (h1 : n ≤ 9223372036854775807) : wrap64 n = n := by unfold wrap64; omega
theorem wrap_lo (n : Int) : -9223372036854775808 ≤ wrap64 n := by unfold wrap64; omega
theorem wrap_hi (n : Int) : wrap64 n ≤ 9223372036854775807 := by unfold wrap64; omega
theorem wf_lo {a : Int} (h : (Lit.int .i64 a).wf = true) : -9223372036854775808 ≤ a := by
  simp only [Lit.wf, Bool.and_eq_true, decide_eq_true_eq] at h
  exact h.1
theorem wf_hi {a : Int} (h : (Lit.int .i64 a).wf = true) : a ≤ 9223372036854775807 := by
  simp only [Lit.wf, Bool.and_eq_true, decide_eq_true_eq] at h
  exact h.2
theorem Ev.val {α : Type} {o : Option α} {r : α} (h : o = some r) : Ev (fun _ => o) r := ⟨0, fun _ _ => h⟩
/-- What comes first is known for every number of rounds. -/
theorem Ev.bindv {α β : Type} {o : Option α} {f : Nat → α → Option β} {a : α} {r : β} (h : o = some a) (k : Ev (fun n => f n a) r) : Ev (fun n => o.bind (f n)) r := by
  subst h; exact k

-- block mat
def entB (x : Int) : Bool := decide (-1000 ≤ x ∧ x ≤ 1000)
/-- What both texts take for a matrix: its four entries. -/
def matB (a b c d : Int) : Bool := (entB a && (entB b && (entB c && entB d))) && !(a * d - b * c == 0)
theorem ent_lo {x : Int} (h : entB x = true) : -1000 ≤ x := by unfold entB at h; simp at h; omega
theorem ent_hi {x : Int} (h : entB x = true) : x ≤ 1000 := by unfold entB at h; simp at h; omega
theorem mul_bd {x y m n : Int} (hx : -m ≤ x) (hx2 : x ≤ m) (hy : -n ≤ y) (hy2 : y ≤ n) (hm : 0 ≤ m) (hn : 0 ≤ n) : -(m * n) ≤ x * y ∧ x * y ≤ m * n := by
  have h1 := Int.mul_nonneg (show 0 ≤ m - x by omega) (show 0 ≤ n - y by omega)
  have h2 := Int.mul_nonneg (show 0 ≤ m + x by omega) (show 0 ≤ n + y by omega)
  have h3 := Int.mul_nonneg (show 0 ≤ m - x by omega) (show 0 ≤ n + y by omega)
  have h4 := Int.mul_nonneg (show 0 ≤ m + x by omega) (show 0 ≤ n - y by omega)
  simp only [Int.sub_mul, Int.mul_sub, Int.add_mul, Int.mul_add] at h1 h2 h3 h4
  constructor <;> omega
theorem det_bd {a b c d m : Int} (hm : 0 ≤ m) (ha : -m ≤ a ∧ a ≤ m) (hb : -m ≤ b ∧ b ≤ m) (hc : -m ≤ c ∧ c ≤ m) (hd : -m ≤ d ∧ d ≤ m) : (-(m * m) ≤ a * d ∧ a * d ≤ m * m) ∧ (-(m * m) ≤ b * c ∧ b * c ≤ m * m) :=
  ⟨mul_bd ha.1 ha.2 hd.1 hd.2 hm hm, mul_bd hb.1 hb.2 hc.1 hc.2 hm hm⟩

-- block mxmn
theorem mx_abs (a : Int) (h : -9223372036854775807 ≤ a) (h2 : a ≤ 9223372036854775807) : mx a (wrap64 (-a)) = (a.natAbs : Int) := by
  rw [wid (by omega) (by omega)]; unfold mx; split <;> omega

-- block gcdlem
theorem gcd_step (a b : Int) (h : b ≠ 0) : Int.gcd b (Int.tmod a b) = Int.gcd a b := by
  unfold Int.gcd
  rw [Int.natAbs_tmod, Nat.gcd_comm a.natAbs b.natAbs]
  conv => rhs; rw [Nat.gcd_rec]
  rw [Nat.gcd_comm]

-- block redM
def bd62 (x : Int) : Prop := -4611686018427387904 ≤ x ∧ x ≤ 4611686018427387904
/-- The greatest common divisor of four entries, and the sign of the first row. -/
def g4 (a b c d : Int) : Int := (Int.gcd (Int.gcd a b : Int) (Int.gcd c d : Int) : Int)
def sg (a b : Int) : Int := if a < 0 ∨ (a = 0 ∧ b < 0) then -1 else 1
def byM (a b c d : Int) : Int := g4 a b c d * sg a b
theorem sg_or (a b : Int) : sg a b = 1 ∨ sg a b = -1 := by unfold sg; split <;> simp
theorem g4_nonneg (a b c d : Int) : 0 ≤ g4 a b c d := by unfold g4; omega
theorem g4_dvd (a b c d : Int) : g4 a b c d ∣ a ∧ g4 a b c d ∣ b ∧ g4 a b c d ∣ c ∧ g4 a b c d ∣ d := by
  unfold g4
  have h1 := Int.gcd_dvd_left (Int.gcd a b : Int) (Int.gcd c d : Int)
  have h2 := Int.gcd_dvd_right (Int.gcd a b : Int) (Int.gcd c d : Int)
  exact ⟨Int.dvd_trans h1 (Int.gcd_dvd_left a b), Int.dvd_trans h1 (Int.gcd_dvd_right a b), Int.dvd_trans h2 (Int.gcd_dvd_left c d), Int.dvd_trans h2 (Int.gcd_dvd_right c d)⟩
theorem g4_ne {a b : Int} (c d : Int) (h : a ≠ 0 ∨ b ≠ 0) : g4 a b c d ≠ 0 := by
  intro e
  obtain ⟨h1, h2, _⟩ := g4_dvd a b c d
  rw [e] at h1 h2
  rcases h with h | h
  · exact h (Int.zero_dvd.1 h1)
  · exact h (Int.zero_dvd.1 h2)
theorem byM_ne {a b : Int} (c d : Int) (h : a ≠ 0 ∨ b ≠ 0) : byM a b c d ≠ 0 := by
  have := g4_ne c d h
  unfold byM
  rcases sg_or a b with e | e <;> rw [e] <;> omega
theorem byM_dvd (a b c d : Int) : byM a b c d ∣ a ∧ byM a b c d ∣ b ∧ byM a b c d ∣ c ∧ byM a b c d ∣ d := by
  have h := g4_dvd a b c d
  unfold byM
  rcases sg_or a b with e | e <;> rw [e]
  · simpa using h
  · simpa using h
theorem gcd_le {a b M : Int} (ha : -M ≤ a ∧ a ≤ M) (hb : -M ≤ b ∧ b ≤ M) : (Int.gcd a b : Int) ≤ M := by
  by_cases h : a = 0
  · subst h; rw [Int.gcd_zero_left]; omega
  · have : Int.gcd a b ≤ a.natAbs := Nat.gcd_le_left _ (by omega)
    omega
theorem tdiv_bd {x M : Int} (g : Int) (hx : -M ≤ x ∧ x ≤ M) : -M ≤ Int.tdiv x g ∧ Int.tdiv x g ≤ M := by
  have := Int.natAbs_tdiv_le_natAbs x g
  omega
/-- The determinant of the reduced matrix is 0 only where that of the matrix is. -/
theorem redDet {a b c d : Int} (h : a * d - b * c ≠ 0) : Int.tdiv a (byM a b c d) * Int.tdiv d (byM a b c d) - Int.tdiv b (byM a b c d) * Int.tdiv c (byM a b c d) ≠ 0 := by
  obtain ⟨h1, h2, h3, h4⟩ := byM_dvd a b c d
  generalize byM a b c d = m at *
  have e1 := Int.tdiv_mul_cancel h1
  have e2 := Int.tdiv_mul_cancel h2
  have e3 := Int.tdiv_mul_cancel h3
  have e4 := Int.tdiv_mul_cancel h4
  generalize Int.tdiv a m = a' at *
  generalize Int.tdiv b m = b' at *
  generalize Int.tdiv c m = c' at *
  generalize Int.tdiv d m = d' at *
  intro e
  apply h
  rw [← e1, ← e2, ← e3, ← e4]
  have : a' * m * (d' * m) - b' * m * (c' * m) = (a' * d' - b' * c') * (m * m) := by
    rw [Int.sub_mul]; simp only [Int.mul_assoc, Int.mul_comm, Int.mul_left_comm]
  rw [this, e, Int.zero_mul]
/-- The four entries of the reduced matrix. -/
def rM (a b c d x : Int) : Int := Int.tdiv x (byM a b c d)
def fitM (a b c d : Int) : Bool := entB (rM a b c d a) && (entB (rM a b c d b) && (entB (rM a b c d c) && entB (rM a b c d d)))
theorem matB_red {a b c d : Int} (h : a * d - b * c ≠ 0) : matB (rM a b c d a) (rM a b c d b) (rM a b c d c) (rM a b c d d) = fitM a b c d := by
  unfold matB fitM rM
  rw [beq_eq_false_iff_ne.2 (redDet h), Bool.not_false, Bool.and_true]
theorem rowNe {a b c d : Int} (h : a * d - b * c ≠ 0) : a ≠ 0 ∨ b ≠ 0 := by
  by_cases ha : a = 0
  · right; intro hb; apply h; rw [ha, hb]; simp
  · left; exact ha

-- block redscale
theorem gcd_mul (m a b : Int) : (Int.gcd (m * a) (m * b) : Int) = (m.natAbs : Int) * (Int.gcd a b : Int) := by
  rw [Int.gcd_mul_left]; simp
theorem g4_mul (m a b c d : Int) : g4 (m * a) (m * b) (m * c) (m * d) = (m.natAbs : Int) * g4 a b c d := by
  unfold g4
  rw [gcd_mul, gcd_mul, gcd_mul, Int.natAbs_natCast]
theorem sg_mul {m a b : Int} (hm : m ≠ 0) (h : a ≠ 0 ∨ b ≠ 0) : sg (m * a) (m * b) = (if m < 0 then -1 else 1) * sg a b := by
  have key : ∀ x : Int, (m * x < 0 ↔ if m < 0 then 0 < x else x < 0) := by
    intro x
    by_cases hn : m < 0
    · rw [if_pos hn]
      constructor
      · intro h1
        rcases Int.lt_trichotomy x 0 with h2 | h2 | h2
        · have := Int.mul_pos_of_neg_of_neg hn h2; omega
        · subst h2; simp at h1
        · exact h2
      · intro h1; exact Int.mul_neg_of_neg_of_pos hn h1
    · rw [if_neg hn]
      have hp : 0 < m := by omega
      constructor
      · intro h1
        rcases Int.lt_trichotomy x 0 with h2 | h2 | h2
        · exact h2
        · subst h2; simp at h1
        · have := Int.mul_pos hp h2; omega
      · intro h1; exact Int.mul_neg_of_pos_of_neg hp h1
  have z : m * a = 0 ↔ a = 0 := by
    rw [Int.mul_eq_zero]
    constructor
    · intro h
      rcases h with h | h
      · exact absurd h hm
      · exact h
    · intro h; exact .inr h
  have ka := key a
  have kb := key b
  unfold sg
  by_cases hn : m < 0
  · rw [if_pos hn] at ka kb
    rw [if_pos hn]
    by_cases h1 : a < 0
    · rw [if_neg (by rw [ka, kb, z]; omega), if_pos (.inl h1)]; rfl
    · by_cases h2 : a = 0
      · by_cases h3 : b < 0
        · rw [if_neg (by rw [ka, kb, z]; omega), if_pos (.inr ⟨h2, h3⟩)]; rfl
        · rw [if_pos (by rw [ka, kb, z]; omega), if_neg (by omega)]; rfl
      · rw [if_pos (by rw [ka, kb, z]; omega), if_neg (by omega)]; rfl
  · rw [if_neg hn] at ka kb
    rw [if_neg hn, Int.one_mul]
    by_cases h1 : a < 0 ∨ (a = 0 ∧ b < 0)
    · rw [if_pos h1, if_pos (by rw [ka, kb, z]; exact h1)]
    · rw [if_neg h1, if_neg (by rw [ka, kb, z]; exact h1)]
theorem byM_mul {m a b : Int} (c d : Int) (hm : m ≠ 0) (h : a ≠ 0 ∨ b ≠ 0) : byM (m * a) (m * b) (m * c) (m * d) = m * byM a b c d := by
  unfold byM
  rw [g4_mul, sg_mul hm h]
  by_cases hn : m < 0
  · rw [if_pos hn, show (m.natAbs : Int) = -m from by omega]
    simp only [Int.neg_mul, Int.mul_neg, Int.one_mul, Int.neg_neg, Int.mul_assoc]
  · rw [if_neg hn, show (m.natAbs : Int) = m from by omega, Int.one_mul, Int.mul_assoc]
theorem tdiv_mul_same {m x y : Int} (hm : m ≠ 0) (h : y ∣ x) : Int.tdiv (m * x) (m * y) = Int.tdiv x y := by
  obtain ⟨q, rfl⟩ := h
  by_cases hy : y = 0
  · subst hy; simp
  · rw [← Int.mul_assoc, Int.mul_tdiv_cancel_left _ (Int.mul_ne_zero hm hy), Int.mul_tdiv_cancel_left _ hy]
/-- The reduced matrix of a multiple is that of the matrix. -/
theorem rM_mul {m a b : Int} (c d : Int) (hm : m ≠ 0) (h : a ≠ 0 ∨ b ≠ 0) : rM (m * a) (m * b) (m * c) (m * d) (m * a) = rM a b c d a ∧ rM (m * a) (m * b) (m * c) (m * d) (m * b) = rM a b c d b ∧ rM (m * a) (m * b) (m * c) (m * d) (m * c) = rM a b c d c ∧ rM (m * a) (m * b) (m * c) (m * d) (m * d) = rM a b c d d := by
  obtain ⟨h1, h2, h3, h4⟩ := byM_dvd a b c d
  unfold rM
  rw [byM_mul c d hm h]
  exact ⟨tdiv_mul_same hm h1, tdiv_mul_same hm h2, tdiv_mul_same hm h3, tdiv_mul_same hm h4⟩

-- block mulM
/-- A matrix as four numbers; the product, the reduced one. -/
structure M4 where
  a : Int
  b : Int
  c : Int
  d : Int
def M4.det (g : M4) : Int := g.a * g.d - g.b * g.c
def M4.mul (g h : M4) : M4 := ⟨g.a * h.a + g.b * h.c, g.a * h.b + g.b * h.d, g.c * h.a + g.d * h.c, g.c * h.b + g.d * h.d⟩
def M4.by_ (g : M4) : Int := byM g.a g.b g.c g.d
def M4.red (g : M4) : M4 := ⟨Int.tdiv g.a g.by_, Int.tdiv g.b g.by_, Int.tdiv g.c g.by_, Int.tdiv g.d g.by_⟩
def M4.smul (m : Int) (g : M4) : M4 := ⟨m * g.a, m * g.b, m * g.c, m * g.d⟩
def M4.fit (g : M4) : Bool := entB g.a && (entB g.b && (entB g.c && entB g.d))
def M4.ok (g : M4) : Bool := matB g.a g.b g.c g.d
def M4.one : M4 := ⟨1, 0, 0, 1⟩
def M4.adj (g : M4) : M4 := ⟨g.d, -g.b, -g.c, g.a⟩
theorem M4.ext' {g h : M4} (h1 : g.a = h.a) (h2 : g.b = h.b) (h3 : g.c = h.c) (h4 : g.d = h.d) : g = h := by cases g; cases h; simp_all
theorem M4.det_mul (g h : M4) : (g.mul h).det = g.det * h.det := by
  unfold M4.det M4.mul
  simp only [Int.sub_mul, Int.mul_sub, Int.add_mul, Int.mul_add, Int.mul_assoc, Int.mul_comm, Int.mul_left_comm]
  omega
theorem M4.mul_smul (m : Int) (g h : M4) : g.mul (h.smul m) = (g.mul h).smul m := by
  apply M4.ext' <;> simp only [M4.mul, M4.smul, Int.mul_add, Int.mul_left_comm]
theorem M4.adj_smul (m : Int) (g : M4) : (g.smul m).adj = g.adj.smul m := by
  apply M4.ext' <;> simp only [M4.adj, M4.smul, Int.mul_neg]
theorem M4.adj_det (g : M4) : g.adj.det = g.det := by unfold M4.adj M4.det; simp only [Int.neg_mul_neg, Int.mul_comm]
theorem M4.row_ne {g : M4} (h : g.det ≠ 0) : g.a ≠ 0 ∨ g.b ≠ 0 := rowNe h
theorem M4.by_ne {g : M4} (h : g.det ≠ 0) : g.by_ ≠ 0 := byM_ne _ _ (M4.row_ne h)
theorem M4.red_det {g : M4} (h : g.det ≠ 0) : g.red.det ≠ 0 := redDet h
theorem M4.smul_red (g : M4) : g.red.smul g.by_ = g := by
  obtain ⟨h1, h2, h3, h4⟩ := byM_dvd g.a g.b g.c g.d
  apply M4.ext'
  · exact Int.mul_tdiv_cancel' h1
  · exact Int.mul_tdiv_cancel' h2
  · exact Int.mul_tdiv_cancel' h3
  · exact Int.mul_tdiv_cancel' h4
theorem M4.red_smul {m : Int} {g : M4} (hm : m ≠ 0) (h : g.det ≠ 0) : (g.smul m).red = g.red := by
  obtain ⟨h1, h2, h3, h4⟩ := rM_mul (m := m) g.c g.d hm (M4.row_ne h)
  exact M4.ext' h1 h2 h3 h4
/-- The reduced product takes the reduced matrix or the matrix alike. -/
theorem M4.red_mul_red {g h : M4} (hg : g.det ≠ 0) (hh : h.det ≠ 0) : (g.mul h.red).red = (g.mul h).red := by
  conv => rhs; rw [← M4.smul_red h, M4.mul_smul]
  rw [M4.red_smul (M4.by_ne hh)]
  rw [M4.det_mul]; exact Int.mul_ne_zero hg (M4.red_det hh)
theorem M4.red_adj_red {g : M4} (hg : g.det ≠ 0) : g.red.adj.red = g.adj.red := by
  conv => rhs; rw [← M4.smul_red g, M4.adj_smul]
  rw [M4.red_smul (M4.by_ne hg)]
  rw [M4.adj_det]; exact M4.red_det hg
theorem M4.ok_det {g : M4} (h : g.ok = true) : g.det ≠ 0 := by
  unfold M4.ok matB at h; rw [Bool.and_eq_true] at h
  have := h.2
  unfold M4.det
  intro e; rw [e] at this; simp at this
theorem M4.ok_fit {g : M4} (h : g.ok = true) : g.fit = true := by
  unfold M4.ok matB at h; rw [Bool.and_eq_true] at h; exact h.1
theorem M4.ok_of {g : M4} (h : g.det ≠ 0) : g.ok = g.fit := by
  unfold M4.ok matB M4.fit
  rw [show (g.a * g.d - g.b * g.c == 0) = false from beq_eq_false_iff_ne.2 h]; simp
theorem M4.fit_bd {g : M4} (h : g.fit = true) : (-1000 ≤ g.a ∧ g.a ≤ 1000) ∧ (-1000 ≤ g.b ∧ g.b ≤ 1000) ∧ (-1000 ≤ g.c ∧ g.c ≤ 1000) ∧ (-1000 ≤ g.d ∧ g.d ≤ 1000) := by
  unfold M4.fit at h; simp only [Bool.and_eq_true] at h
  exact ⟨⟨ent_lo h.1, ent_hi h.1⟩, ⟨ent_lo h.2.1, ent_hi h.2.1⟩, ⟨ent_lo h.2.2.1, ent_hi h.2.2.1⟩, ⟨ent_lo h.2.2.2, ent_hi h.2.2.2⟩⟩
theorem ent_of {x : Int} (h : -1000 ≤ x ∧ x ≤ 1000) : entB x = true := decide_eq_true h
theorem M4.red_fit {g : M4} (h : g.fit = true) : g.red.fit = true := by
  obtain ⟨h1, h2, h3, h4⟩ := M4.fit_bd h
  unfold M4.fit M4.red
  simp only [ent_of (tdiv_bd _ h1), ent_of (tdiv_bd _ h2), ent_of (tdiv_bd _ h3), ent_of (tdiv_bd _ h4), Bool.and_self]
theorem M4.red_ok {g : M4} (h : g.ok = true) : g.red.ok = true := by
  rw [M4.ok_of (M4.red_det (M4.ok_det h))]; exact M4.red_fit (M4.ok_fit h)
theorem M4.one_mul (g : M4) : M4.one.mul g = g := by apply M4.ext' <;> simp [M4.mul, M4.one]
/-- What a product of int64s is. -/
def mulW (x y u v : Int) : Int := wrap64 (wrap64 (x * u) + wrap64 (y * v))
theorem mulW_eq {x y u v M : Int} (hM : 0 ≤ M) (hM2 : M ≤ 1000000000) (hx : -M ≤ x ∧ x ≤ M) (hy : -M ≤ y ∧ y ≤ M) (hu : -M ≤ u ∧ u ≤ M) (hv : -M ≤ v ∧ v ≤ M) : mulW x y u v = x * u + y * v := by
  have hmm : M * M ≤ 1000000000000000000 := by have := Int.mul_le_mul hM2 hM2 hM (by omega); omega
  obtain ⟨a1, a2⟩ := mul_bd hx.1 hx.2 hu.1 hu.2 hM hM
  obtain ⟨b1, b2⟩ := mul_bd hy.1 hy.2 hv.1 hv.2 hM hM
  unfold mulW
  rw [wid (n := x * u) (by omega) (by omega), wid (n := y * v) (by omega) (by omega), wid (by omega) (by omega)]

-- block loops
theorem rd_nat (l : List Int) (j : Nat) (h : j < l.length) : rd l (j : Int) = l[j] := by
  unfold rd; rw [Int.toNat_natCast, List.getD_eq_getElem?_getD, List.getElem?_eq_getElem h]; rfl
/-- A loop that stores element after element of one list into another of the same length ends in the list. -/
theorem copy_ev {α : Type} (g : Nat → List α → Int → Option (List α)) (src : List α) (get : Int → α)
    (hstep : ∀ k (dst : List α) (i : Nat), i < src.length → dst.length = src.length → g (k + 1) dst i = g k (dst.set i (get i)) ((i : Int) + 1))
    (hend : ∀ k (dst : List α) (i : Nat), src.length ≤ i → dst.length = src.length → g (k + 1) dst i = some dst)
    (hget : ∀ (i : Nat) (h : i < src.length), get i = src[i]) (dst : List α) (hd : dst.length = src.length) : Ev (fun k => g k dst 0) src := by
  have key : ∀ (n i : Nat) (dst : List α), i + n = src.length → dst.length = src.length → (∀ (j : Nat) (h : j < src.length), j < i → dst[j]? = some src[j]) → Ev (fun k => g k dst i) src := by
    intro n
    induction n with
    | zero =>
      intro i dst hi hl hp
      refine Ev.step (f := fun _ => some dst) (fun k => hend k dst i (by omega) hl) ?_
      have e : dst = src := by
        refine List.ext_getElem? fun j => ?_
        by_cases h : j < src.length
        · rw [hp j h (by omega), List.getElem?_eq_getElem h]
        · rw [List.getElem?_eq_none (by omega), List.getElem?_eq_none (by omega)]
      rw [e]; exact Ev.now _
    | succ n ih =>
      intro i dst hi hl hp
      refine Ev.step (f := fun k => g k (dst.set i (get i)) ((i + 1 : Nat) : Int)) (fun k => ?_) (ih (i + 1) _ (by omega) (by rw [List.length_set]; exact hl) ?_)
      · rw [hstep k dst i (by omega) hl]; rfl
      · intro j h hj
        by_cases e : j = i
        · subst e
          rw [List.getElem?_set_self (by omega), hget j h]
        · rw [List.getElem?_set_ne (by omega)]; exact hp j h (by omega)
  exact key src.length 0 dst (by omega) hd (fun j h hj => by omega)
/-- A loop over places that goes on as long as a test says yes, and answers no at the first no. -/
theorem all_ev {β : Type} (g : Nat → Int → Option β) (n : Nat) (p : Nat → Bool) (yes no : β)
    (hstep : ∀ (i : Nat), i < n → p i = true → Ev (fun k => g k ((i : Int) + 1)) yes → Ev (fun k => g k i) yes)
    (hstepno : ∀ (i : Nat), i < n → p i = true → Ev (fun k => g k ((i : Int) + 1)) no → Ev (fun k => g k i) no)
    (hno : ∀ (i : Nat), i < n → p i = false → Ev (fun k => g k i) no)
    (hend : Ev (fun k => g k n) yes) : Ev (fun k => g k 0) (if (List.range n).all p then yes else no) := by
  have key : ∀ (d i : Nat), i + d = n → Ev (fun k => g k i) (if (List.range' i d).all p then yes else no) := by
    intro d
    induction d with
    | zero => intro i hi; have : i = n := by omega
              subst this; simpa using hend
    | succ d ih =>
      intro i hi
      have h := ih (i + 1) (by omega)
      rw [List.range'_succ, List.all_cons]
      cases e : p i with
      | false => simpa using hno i (by omega) e
      | true =>
        rw [Bool.true_and]
        have e1 : (((i + 1 : Nat) : Int)) = (i : Int) + 1 := by omega
        rw [e1] at h
        cases e2 : (List.range' (i + 1) d).all p with
        | true => rw [e2] at h; exact hstep i (by omega) e h
        | false => rw [e2] at h; exact hstepno i (by omega) e h
  have := key n 0 (by omega)
  rw [← List.range_eq_range'] at this
  exact this
theorem all_range_rd (l : List Int) (q : Int → Bool) : (List.range l.length).all (fun i => q (rd l (i : Int))) = l.all q := by
  rw [Bool.eq_iff_iff]
  simp only [List.all_eq_true, List.mem_range]
  constructor
  · intro h x hx
    obtain ⟨i, hi, rfl⟩ := List.mem_iff_getElem.1 hx
    have := h i hi
    rwa [rd_nat l i hi] at this
  · intro h i hi
    rw [rd_nat l i hi]
    exact h _ (List.getElem_mem hi)
theorem all_range_getD {α : Type} (l : List α) (d : α) (q : α → Bool) : (List.range l.length).all (fun i => q (l.getD i d)) = l.all q := by
  rw [Bool.eq_iff_iff]
  simp only [List.all_eq_true, List.mem_range]
  constructor
  · intro h x hx
    obtain ⟨i, hi, rfl⟩ := List.mem_iff_getElem.1 hx
    have := h i hi
    rwa [List.getD_eq_getElem?_getD, List.getElem?_eq_getElem hi] at this
  · intro h i hi
    rw [List.getD_eq_getElem?_getD, List.getElem?_eq_getElem hi]
    exact h _ (List.getElem_mem hi)
/-- all_ev, with one form of the step for both answers. -/
theorem all_ev' {β : Type} (g : Nat → Int → Option β) (n : Nat) (p : Nat → Bool) (yes no : β)
    (hstep : ∀ (i : Nat) (r : β), i < n → p i = true → Ev (fun k => g k ((i : Int) + 1)) r → Ev (fun k => g k i) r)
    (hno : ∀ (i : Nat), i < n → p i = false → Ev (fun k => g k i) no)
    (hend : Ev (fun k => g k n) yes) : Ev (fun k => g k 0) (if (List.range n).all p then yes else no) :=
  all_ev g n p yes no (fun i hi hp h => hstep i yes hi hp h) (fun i hi hp h => hstep i no hi hp h) hno hend
theorem ite_tf (b : Bool) : (if b then true else false) = b := by cases b <;> rfl
/-- copy_ev where a round of the loop makes calls. -/
theorem copy_ev' {α : Type} (g : Nat → List α → Int → Option (List α)) (src : List α)
    (hstep : ∀ (dst : List α) (i : Nat) (h : i < src.length) (r : List α), dst.length = src.length → Ev (fun k => g k (dst.set i src[i]) ((i : Int) + 1)) r → Ev (fun k => g k dst i) r)
    (hend : ∀ (dst : List α), dst.length = src.length → Ev (fun k => g k dst src.length) dst) (dst : List α) (hd : dst.length = src.length) : Ev (fun k => g k dst 0) src := by
  have key : ∀ (n i : Nat) (dst : List α), i + n = src.length → dst.length = src.length → (∀ (j : Nat) (h : j < src.length), j < i → dst[j]? = some src[j]) → Ev (fun k => g k dst i) src := by
    intro n
    induction n with
    | zero =>
      intro i dst hi hl hp
      have e : dst = src := by
        refine List.ext_getElem? fun j => ?_
        by_cases h : j < src.length
        · rw [hp j h (by omega), List.getElem?_eq_getElem h]
        · rw [List.getElem?_eq_none (by omega), List.getElem?_eq_none (by omega)]
      have hi2 : i = src.length := by omega
      subst hi2
      have := hend dst hl
      rwa [e] at this ⊢
    | succ n ih =>
      intro i dst hi hl hp
      refine hstep dst i (by omega) src hl ?_
      have := ih (i + 1) (dst.set i (src[i]'(by omega))) (by omega) (by rw [List.length_set]; exact hl) (fun j h hj => by
        by_cases e : j = i
        · subst e; rw [List.getElem?_set_self (by omega)]
        · rw [List.getElem?_set_ne (by omega)]; exact hp j h (by omega))
      exact this
  exact key src.length 0 dst (by omega) hd (fun j h hj => by omega)

-- block toMatrix
theorem laws_toInt64A2_ev (a b : Int) : Ev (fun k => laws_toInt64A2.f k a b) (a, b) := by
  have w0 : wrap64 1 = 1 := wid (by omega) (by omega)
  have w1 : wrap64 2 = 2 := wid (by omega) (by omega)
  unfold laws_toInt64A2.f
  refine Ev.step (f := fun k => laws_toInt64A2.l0 k 1 a b a 0) (fun k => by simp [laws_toInt64A2.l0, w0]) ?_
  refine Ev.step (f := fun k => laws_toInt64A2.l0 k 2 a b a b) (fun k => by simp [laws_toInt64A2.l0, w1]) ?_
  exact Ev.step (f := fun _ => some (a, b)) (fun k => by simp [laws_toInt64A2.l0]) (Ev.now _)
theorem laws_toMatrix_ev (a b c d : Int) : Ev (fun k => laws_toMatrix.f k a b c d) (a, b, c, d) := by
  have w0 : wrap64 1 = 1 := wid (by omega) (by omega)
  have w1 : wrap64 2 = 2 := wid (by omega) (by omega)
  unfold laws_toMatrix.f
  refine Ev.step (f := fun k => (laws_toInt64A2.f k a b).bind fun t => laws_toMatrix.l0 k 1 a b c d t.1 t.2 0 0) (fun k => by simp [laws_toMatrix.l0, w0]) ?_
  refine Ev.bind (laws_toInt64A2_ev a b) ?_
  refine Ev.step (f := fun k => (laws_toInt64A2.f k c d).bind fun t => laws_toMatrix.l0 k 2 a b c d a b t.1 t.2) (fun k => by simp [laws_toMatrix.l0, w1]) ?_
  refine Ev.bind (laws_toInt64A2_ev c d) ?_
  exact Ev.step (f := fun _ => some (a, b, c, d)) (fun k => by simp [laws_toMatrix.l0]) (Ev.now _)

-- block eqMatrix
theorem laws_eqInt64A2_ev (a b : Int) : Ev (fun k => laws_eqInt64A2.f k a b a b) true := by
  have w0 : wrap64 1 = 1 := wid (by omega) (by omega)
  have w1 : wrap64 2 = 2 := wid (by omega) (by omega)
  unfold laws_eqInt64A2.f
  refine Ev.step (f := fun k => laws_eqInt64A2.l0 k 1 a b a b) (fun k => by simp [laws_eqInt64A2.l0, w0]) ?_
  refine Ev.step (f := fun k => laws_eqInt64A2.l0 k 2 a b a b) (fun k => by simp [laws_eqInt64A2.l0, w1]) ?_
  exact Ev.step (f := fun _ => some true) (fun k => by simp [laws_eqInt64A2.l0]) (Ev.now _)
theorem laws_eqMatrix_ev (a b c d : Int) : Ev (fun k => laws_eqMatrix.f k a b c d a b c d) true := by
  have w0 : wrap64 1 = 1 := wid (by omega) (by omega)
  have w1 : wrap64 2 = 2 := wid (by omega) (by omega)
  unfold laws_eqMatrix.f
  refine Ev.step (f := fun k => (laws_eqInt64A2.f k a b a b).bind fun t => if t = true then laws_eqMatrix.l0 k 1 a b c d a b c d else some false) (fun k => by simp [laws_eqMatrix.l0, w0]) ?_
  refine Ev.bind (laws_eqInt64A2_ev a b) ?_
  simp only [if_true]
  refine Ev.step (f := fun k => (laws_eqInt64A2.f k c d c d).bind fun t => if t = true then laws_eqMatrix.l0 k 2 a b c d a b c d else some false) (fun k => by simp [laws_eqMatrix.l0, w1]) ?_
  refine Ev.bind (laws_eqInt64A2_ev c d) ?_
  simp only [if_true]
  exact Ev.step (f := fun _ => some true) (fun k => by simp [laws_eqMatrix.l0]) (Ev.now _)

-- block matS
def m4 (x : S26) : M4 := ⟨x.f0.f0, x.f0.f1, x.f1.f0, x.f1.f1⟩
def ofM4 (g : M4) : S26 := ⟨⟨g.a, g.b⟩, ⟨g.c, g.d⟩⟩
def convM (x : S23) : S26 := ⟨⟨x.f0.f0, x.f0.f1⟩, ⟨x.f1.f0, x.f1.f1⟩⟩
theorem laws_toMatrixS_ev (l : List S23) (hl : l.length ≤ 8796093022208) : Ev (fun k => laws_toMatrixS.f k l) (l.map convM) := by
  refine Ev.congr (f := fun k => laws_toMatrixS.l0 k l (List.replicate l.length z26) 0) (fun k => ?_) ?_
  · unfold laws_toMatrixS.f
    rw [if_pos (by omega), if_pos (by rw [Int.toNat_natCast]; exact hl), Int.toNat_natCast]
  · refine copy_ev' (fun k dst i => laws_toMatrixS.l0 k l dst i) (l.map convM) ?_ ?_ _ (by simp)
    · intro dst i h r hd hr
      have hi : i < l.length := by simpa using h
      have hd' : dst.length = l.length := by simpa using hd
      have e : (l.map convM)[i] = convM l[i] := by simp
      rw [e] at hr
      have er : rd_T23 l (i : Int) = l[i] := by
        show l.getD i z23 = l[i]
        rw [List.getD_eq_getElem?_getD, List.getElem?_eq_getElem hi]; rfl
      refine Ev.step (f := fun k => (laws_toMatrix.f k l[i].f0.f0 l[i].f0.f1 l[i].f1.f0 l[i].f1.f1).bind fun t => laws_toMatrixS.l0 k l (dst.set i ⟨⟨t.1, t.2.1⟩, ⟨t.2.2.1, t.2.2.2⟩⟩) ((i : Int) + 1)) (fun k => ?_) ?_
      · simp only [laws_toMatrixS.l0]
        rw [if_pos (by omega), if_pos (by omega), er]
        simp only [if_pos (show (i : Int) < (dst.length : Int) by omega), Int.toNat_natCast, wid (n := (i : Int) + 1) (by omega) (by omega)]
      · exact Ev.bind (laws_toMatrix_ev _ _ _ _) hr
    · intro dst hd
      refine Ev.step (f := fun _ => some dst) (fun k => ?_) (Ev.now _)
      simp only [laws_toMatrixS.l0]
      rw [if_neg (by simp)]
theorem laws_eqMatrixS_ev (l : List S26) (hl : l.length ≤ 4611686018427387904) : Ev (fun k => laws_eqMatrixS.f k l l) true := by
  have key : ∀ (d i : Nat), i + d = l.length → Ev (fun k => laws_eqMatrixS.l0 k l l i) true := by
    intro d
    induction d with
    | zero => intro i hi; exact Ev.step (f := fun _ => some true) (fun k => by simp only [laws_eqMatrixS.l0]; rw [if_neg (by omega)]) (Ev.now _)
    | succ d ih =>
      intro i hi
      refine Ev.step (f := fun k => (laws_eqMatrix.f k (rd_T26 l i).f0.f0 (rd_T26 l i).f0.f1 (rd_T26 l i).f1.f0 (rd_T26 l i).f1.f1 (rd_T26 l i).f0.f0 (rd_T26 l i).f0.f1 (rd_T26 l i).f1.f0 (rd_T26 l i).f1.f1).bind fun t => if t = true then laws_eqMatrixS.l0 k l l ((i + 1 : Nat) : Int) else some false) (fun k => ?_) ?_
      · simp only [laws_eqMatrixS.l0]
        rw [if_pos (by omega), if_pos (by omega), if_pos (by omega), wid (n := (i : Int) + 1) (by omega) (by omega)]; rfl
      · refine Ev.bind (laws_eqMatrix_ev _ _ _ _) ?_
        simp only [if_true]
        exact ih (i + 1) (by omega)
  refine Ev.congr (f := fun k => laws_eqMatrixS.l0 k l l 0) (fun k => ?_) (key l.length 0 (by omega))
  unfold laws_eqMatrixS.f; rw [if_pos rfl]
theorem szM (n : Nat) (hn : n ≤ maxLen) : wrap64 (1048576 - (n : Int)) = 1048576 - (n : Int) := by
  have : maxLen = 9223372036854775807 := rfl
  exact wid (by omega) (by omega)

-- block impl_within
theorem impl_within_ev (m : Int) (l : List Int) (hm : 0 ≤ m) (hm2 : m ≤ 4611686018427387904) (hl : l.length ≤ 4611686018427387904) : Ev (fun k => impl_within.f k m l) (l.all (fun x => decide (-m ≤ x ∧ x ≤ m))) := by
  unfold impl_within.f
  rw [← ite_tf (l.all _), ← all_range_rd]
  have w : wrap64 (-m) = -m := wid (by omega) (by omega)
  refine all_ev' (fun k i => impl_within.l0 k m l l.length i) l.length (fun i => decide (-m ≤ rd l (i : Int) ∧ rd l (i : Int) ≤ m)) true false ?_ ?_ ?_
  · intro i r hi hp hr
    have hp := of_decide_eq_true hp
    refine Ev.step (f := fun k => impl_within.l0 k m l l.length ((i : Int) + 1)) (fun k => ?_) hr
    simp only [impl_within.l0]
    rw [if_pos (by omega), if_pos (by omega), if_pos (by omega), w, if_neg (by omega), if_neg (by omega), wid (by omega) (by omega)]
  · intro i hi hp
    have hp := of_decide_eq_false hp
    refine Ev.step (f := fun _ => some false) (fun k => ?_) (Ev.now _)
    simp only [impl_within.l0]
    rw [if_pos (by omega), if_pos (by omega), if_pos (by omega), w]
    by_cases h : rd l (i : Int) < -m
    · rw [if_pos h]
    · rw [if_neg h, if_pos (by omega)]
  · exact Ev.step (f := fun _ => some true) (fun k => by simp only [impl_within.l0]; rw [if_neg (by omega)]) (Ev.now _)

-- block impl_IsMatrix
theorem impl_determinant_eq {a b c d m : Int} (hm : 0 ≤ m) (hm2 : m ≤ 2000000000) (ha : -m ≤ a ∧ a ≤ m) (hb : -m ≤ b ∧ b ≤ m) (hc : -m ≤ c ∧ c ≤ m) (hd : -m ≤ d ∧ d ≤ m) : impl_determinant.f a b c d = some (a * d - b * c) := by
  have hmm : m * m ≤ 4000000000000000000 := by have := Int.mul_le_mul hm2 hm2 hm (by omega); omega
  obtain ⟨h1, h2⟩ := det_bd hm ha hb hc hd
  unfold impl_determinant.f
  rw [wid (n := a * d) (by omega) (by omega), wid (n := b * c) (by omega) (by omega), wid (by omega) (by omega)]
theorem impl_IsMatrix_ev (a b c d : Int) : Ev (fun k => impl_IsMatrix.f k a b c d) (matB a b c d) := by
  unfold impl_IsMatrix.f matB
  refine Ev.bind (impl_within_ev 1000 [a, b, c, d] (by omega) (by omega) (by simp)) ?_
  rw [show ([a, b, c, d] : List Int).all (fun x => decide (-1000 ≤ x ∧ x ≤ 1000)) = (entB a && (entB b && (entB c && entB d))) from by simp [entB]]
  cases h : (entB a && (entB b && (entB c && entB d))) with
  | false => simp only [Bool.false_eq_true, if_false, Bool.false_and]; exact Ev.now _
  | true =>
    simp only [Bool.and_eq_true] at h
    simp only [if_true, Bool.true_and]
    refine Ev.bindv (impl_determinant_eq (m := 1000) (by omega) (by omega) ⟨ent_lo h.1, ent_hi h.1⟩ ⟨ent_lo h.2.1, ent_hi h.2.1⟩ ⟨ent_lo h.2.2.1, ent_hi h.2.2.1⟩ ⟨ent_lo h.2.2.2, ent_hi h.2.2.2⟩) ?_
    exact Ev.now _

-- block areM
theorem impl_areMatrices_ev (l : List S26) (hl : l.length ≤ 4611686018427387904) : Ev (fun k => impl_areMatrices.f k l) (l.all (fun x => (m4 x).ok)) := by
  unfold impl_areMatrices.f
  have hr : ∀ (i : Nat) (k : Nat), i < l.length → impl_areMatrices.l0 (k + 1) l l.length i = (impl_IsMatrix.f k (l.getD i z26).f0.f0 (l.getD i z26).f0.f1 (l.getD i z26).f1.f0 (l.getD i z26).f1.f1).bind fun t => if t = true then impl_areMatrices.l0 k l l.length ((i : Int) + 1) else some false := by
    intro i k hi
    simp only [impl_areMatrices.l0]
    rw [if_pos (by omega), if_pos (by omega), if_pos (by omega), wid (by omega) (by omega)]; rfl
  have := all_ev' (fun k i => impl_areMatrices.l0 k l l.length i) l.length (fun i => (m4 (l.getD i z26)).ok) true false (by
    intro i r hi hb hr'
    refine Ev.step (hr i · hi) (Ev.bind (impl_IsMatrix_ev _ _ _ _) ?_)
    have hb' : matB (l.getD i z26).f0.f0 (l.getD i z26).f0.f1 (l.getD i z26).f1.f0 (l.getD i z26).f1.f1 = true := hb
    rw [hb']; simpa using hr') (by
    intro i hi hb
    refine Ev.step (hr i · hi) (Ev.bind (impl_IsMatrix_ev _ _ _ _) ?_)
    have hb' : matB (l.getD i z26).f0.f0 (l.getD i z26).f0.f1 (l.getD i z26).f1.f0 (l.getD i z26).f1.f1 = false := hb
    rw [hb']; simp; exact Ev.now _) (Ev.step (f := fun _ => some true) (fun k => by simp only [impl_areMatrices.l0]; rw [if_neg (by omega)]) (Ev.now _))
  rw [all_range_getD l z26 (fun x => (m4 x).ok), ite_tf] at this
  exact this

-- block In
theorem In_eq (a b c : Int) : spec_l01In.f a b c = some (decide (b ≤ a ∧ a ≤ c)) := by
  unfold spec_l01In.f
  by_cases h : a ≥ b
  · rw [if_pos h]; congr 1; exact decide_eq_decide.2 ⟨fun h2 => ⟨h, h2⟩, fun h2 => h2.2⟩
  · rw [if_neg h]; congr 1; exact (decide_eq_false (fun h2 => h h2.1)).symm

-- block spec_l04Is
theorem spec_l04Det_eq {a b c d m : Int} (hm : 0 ≤ m) (hm2 : m ≤ 2000000000) (ha : -m ≤ a ∧ a ≤ m) (hb : -m ≤ b ∧ b ≤ m) (hc : -m ≤ c ∧ c ≤ m) (hd : -m ≤ d ∧ d ≤ m) : spec_l04Det.f a b c d = some (a * d - b * c) := by
  have hmm : m * m ≤ 4000000000000000000 := by have := Int.mul_le_mul hm2 hm2 hm (by omega); omega
  obtain ⟨h1, h2⟩ := det_bd hm ha hb hc hd
  unfold spec_l04Det.f
  rw [wid (n := a * d) (by omega) (by omega), wid (n := b * c) (by omega) (by omega), wid (by omega) (by omega)]
theorem spec_l04Is_ev (a b c d : Int) : Ev (fun k => spec_l04Is.f k a b c d) (matB a b c d) := by
  have w0 : wrap64 1 = 1 := wid (by omega) (by omega)
  have w1 : wrap64 2 = 2 := wid (by omega) (by omega)
  have hI : ∀ x : Int, spec_l01In.f x (-1000) 1000 = some (entB x) := fun x => In_eq x _ _
  unfold spec_l04Is.f matB
  refine Ev.step (f := fun k => spec_l04Is.l1 k 0 0 a b c d) (fun k => by simp only [spec_l04Is.l0]; rw [if_pos (by decide)]) ?_
  have no : Ev (fun _ : Nat => (some false : Option Bool)) false := Ev.now _
  cases ha : entB a with
  | false => exact Ev.step (f := fun _ => some false) (fun k => by simp [spec_l04Is.l1, hI, ha]) no
  | true =>
  refine Ev.step (f := fun k => spec_l04Is.l1 k 0 1 a b c d) (fun k => by simp [spec_l04Is.l1, hI, ha, w0]) ?_
  cases hb : entB b with
  | false => exact Ev.step (f := fun _ => some false) (fun k => by simp [spec_l04Is.l1, hI, hb]) no
  | true =>
  refine Ev.step (f := fun k => spec_l04Is.l1 k 0 2 a b c d) (fun k => by simp [spec_l04Is.l1, hI, hb, w1]) ?_
  refine Ev.step (f := fun k => spec_l04Is.l0 k 1 a b c d) (fun k => by simp [spec_l04Is.l1, w0]) ?_
  refine Ev.step (f := fun k => spec_l04Is.l1 k 1 0 a b c d) (fun k => by simp only [spec_l04Is.l0]; rw [if_pos (by decide)]) ?_
  cases hc : entB c with
  | false => exact Ev.step (f := fun _ => some false) (fun k => by simp [spec_l04Is.l1, hI, hc]) no
  | true =>
  refine Ev.step (f := fun k => spec_l04Is.l1 k 1 1 a b c d) (fun k => by simp [spec_l04Is.l1, hI, hc, w0]) ?_
  cases hd : entB d with
  | false => exact Ev.step (f := fun _ => some false) (fun k => by simp [spec_l04Is.l1, hI, hd]) no
  | true =>
  refine Ev.step (f := fun k => spec_l04Is.l1 k 1 2 a b c d) (fun k => by simp [spec_l04Is.l1, hI, hd, w1]) ?_
  refine Ev.step (f := fun k => spec_l04Is.l0 k 2 a b c d) (fun k => by simp [spec_l04Is.l1, w1]) ?_
  refine Ev.step (f := fun _ => (spec_l04Det.f a b c d).bind fun t => some (t != 0)) (fun k => by simp only [spec_l04Is.l0]; rw [if_neg (by decide)]) ?_
  refine Ev.bindv (spec_l04Det_eq (m := 1000) (by omega) (by omega) ⟨ent_lo ha, ent_hi ha⟩ ⟨ent_lo hb, ent_hi hb⟩ ⟨ent_lo hc, ent_hi hc⟩ ⟨ent_lo hd, ent_hi hd⟩) ?_
  simp only [Bool.true_and]
  exact Ev.now _

-- block spec_l01Gcd
theorem spec_l01Gcd_l (n : Nat) : ∀ (a b : Int), b.natAbs < n → -9223372036854775807 ≤ a → a ≤ 9223372036854775807 → -9223372036854775807 ≤ b → b ≤ 9223372036854775807 → Ev (fun k => spec_l01Gcd.l0 k a b) (Int.gcd a b : Int) := by
  induction n with
  | zero => intro a b h; omega
  | succ n ih =>
    intro a b hn ha1 ha2 hb1 hb2
    by_cases hb : b = 0
    · subst hb
      refine Ev.step (f := fun _ => some (mx a (wrap64 (-a)))) (fun k => by simp only [spec_l01Gcd.l0, if_true]) ?_
      rw [mx_abs a ha1 ha2, Int.gcd_zero_right]; exact Ev.now _
    · have hlt : (Int.tmod a b).natAbs < b.natAbs := by rw [Int.natAbs_tmod]; exact Nat.mod_lt _ (by omega)
      refine Ev.step (f := fun k => spec_l01Gcd.l0 k b (Int.tmod a b)) (fun k => by simp only [spec_l01Gcd.l0]; rw [if_neg hb]) ?_
      rw [← gcd_step a b hb]
      exact ih _ _ (by omega) hb1 hb2 (by omega) (by omega)
theorem spec_l01Gcd_ev (a b : Int) (ha1 : -9223372036854775807 ≤ a) (ha2 : a ≤ 9223372036854775807) (hb1 : -9223372036854775807 ≤ b) (hb2 : b ≤ 9223372036854775807) : Ev (fun k => spec_l01Gcd.f k a b) (Int.gcd a b : Int) := by
  unfold spec_l01Gcd.f
  exact spec_l01Gcd_l (b.natAbs + 1) a b (by omega) ha1 ha2 hb1 hb2

-- block spec_l04Reduce
theorem rd_set_self (l : List Int) (i : Nat) (v : Int) (h : i < l.length) : rd (l.set i v) (i : Int) = v := by
  rw [rd_nat _ i (by rw [List.length_set]; exact h), List.getElem_set_self]
theorem spec_l04Reduce_l1s (l : List Int) (g s : Int) (f : Bool) (i : Nat) (hi : i < 4) (hl : l.length = 4) (hg : g ≠ 0) (v : Int) (hv : wrap64 ((wrap64 (Int.tdiv (rd l i) g)) * s) = v) (k : Nat) :
    spec_l04Reduce.l1 (k + 1) l g s f i = spec_l04Reduce.l1 k (l.set i v) g s (f && entB v) ((i : Int) + 1) := by
  have hI : ∀ x : Int, spec_l01In.f x (-1000) 1000 = some (entB x) := fun x => In_eq x _ _
  simp only [spec_l04Reduce.l1]
  rw [if_pos (by omega), if_pos (by omega), if_pos (by omega), if_neg hg, hv]
  simp only [Option.bind_some, Int.toNat_natCast]
  rw [rd_set_self l i v (by omega), hI, wid (n := (i : Int) + 1) (by omega) (by omega)]
  cases f
  · simp
  · simp
def s1 (x : Int) : Int := if x = 0 then 0 else if x < 0 then -1 else 1
theorem tdiv_abs {x : Int} (h : x ≠ 0) : Int.tdiv x (x.natAbs : Int) = s1 x := by
  unfold s1
  rw [if_neg h]
  by_cases hx : x < 0
  · rw [if_pos hx, show (x.natAbs : Int) = -x from by omega, Int.tdiv_neg, Int.tdiv_self h]
  · rw [if_neg hx, show (x.natAbs : Int) = x from by omega, Int.tdiv_self h]
theorem spec_l04Reduce_l0s (l : List Int) (g s : Int) (i : Nat) (hi : i < 4) (hl : l.length = 4) (hg : 0 ≤ g ∧ g ≤ 4611686018427387904) (hx : bd62 (rd l i)) {r : Int × Int × Int × Int × Bool}
    (h : Ev (fun k => spec_l04Reduce.l0 k l (Int.gcd g (rd l i) : Int) (if s = 0 then s1 (rd l i) else s) ((i : Int) + 1)) r) : Ev (fun k => spec_l04Reduce.l0 k l g s i) r := by
  unfold bd62 at hx
  have hm := mx_abs (rd l i) (by omega) (by omega)
  refine Ev.step (f := fun k => (spec_l01Gcd.f k g ((rd l i).natAbs : Int)).bind fun t => if s = 0 then (if rd l i = 0 then spec_l04Reduce.l0 k l t s ((i : Int) + 1) else if ((rd l i).natAbs : Int) = 0 then none else spec_l04Reduce.l0 k l t (wrap64 (Int.tdiv (rd l i) ((rd l i).natAbs : Int))) ((i : Int) + 1)) else spec_l04Reduce.l0 k l t s ((i : Int) + 1)) (fun k => ?_) ?_
  · simp only [spec_l04Reduce.l0]
    rw [if_pos (by omega), if_pos (by omega), if_pos (by omega), hm, wid (n := (i : Int) + 1) (by omega) (by omega)]
  · refine Ev.bind (spec_l01Gcd_ev _ _ (by omega) (by omega) (by omega) (by omega)) ?_
    rw [show (Int.gcd g ((rd l i).natAbs : Int) : Int) = (Int.gcd g (rd l i) : Int) from by unfold Int.gcd; rw [Int.natAbs_natCast]]
    by_cases hs : s = 0
    · rw [if_pos hs] at h
      simp only [if_pos hs]
      by_cases h0 : rd l i = 0
      · simp only [if_pos h0]
        rw [show s1 (rd l i) = s from by unfold s1; rw [if_pos h0, hs]] at h
        exact h
      · simp only [if_neg h0, if_neg (show ¬ ((rd l i).natAbs : Int) = 0 by omega)]
        rw [tdiv_abs h0, wid (n := s1 (rd l i)) (by unfold s1; split <;> (try split) <;> omega) (by unfold s1; split <;> (try split) <;> omega)]
        exact h
    · rw [if_neg hs] at h
      simp only [if_neg hs]
      exact h
theorem spec_l04Reduce_ev {a b c d : Int} (ha : bd62 a) (hb : bd62 b) (hc : bd62 c) (hd : bd62 d) (hne : a ≠ 0 ∨ b ≠ 0) :
    Ev (fun k => spec_l04Reduce.f k a b c d) (rM a b c d a, rM a b c d b, rM a b c d c, rM a b c d d, fitM a b c d) := by
  have k1 := gcd_le ha hb
  have k2 := gcd_le hc hd
  have k3 : g4 a b c d ≤ 4611686018427387904 := gcd_le (a := Int.gcd a b) (b := Int.gcd c d) (by omega) (by omega)
  have k0 := g4_nonneg a b c d
  have hg := g4_ne c d hne
  have hsg := sg_or a b
  have q1 : (Int.gcd (a.natAbs : Int) b : Int) = (Int.gcd a b : Int) := by unfold Int.gcd; rw [Int.natAbs_natCast]
  have q3 := gcd_le (a := (Int.gcd a b : Int)) (b := c) (M := 4611686018427387904) (by omega) hc
  have q4 : (Int.gcd (Int.gcd (Int.gcd a b : Int) c : Int) d : Int) = g4 a b c d := by unfold g4; rw [Int.gcd_assoc]
  have fin : Ev (fun k => spec_l04Reduce.l0 k [a, b, c, d] (g4 a b c d) (sg a b) 4) (rM a b c d a, rM a b c d b, rM a b c d c, rM a b c d d, fitM a b c d) := by
    have vx : ∀ x, bd62 x → wrap64 ((wrap64 (Int.tdiv x (g4 a b c d))) * sg a b) = rM a b c d x := by
      intro x hx
      have := tdiv_bd (g4 a b c d) hx
      unfold rM byM
      rw [wid (n := Int.tdiv x (g4 a b c d)) (by omega) (by omega)]
      rcases hsg with e | e <;> rw [e]
      · rw [Int.mul_one, Int.mul_one, wid (by omega) (by omega)]
      · rw [Int.mul_neg_one, Int.mul_neg_one, Int.tdiv_neg, wid (by omega) (by omega)]
    refine Ev.step (f := fun k => spec_l04Reduce.l1 k [a, b, c, d] (g4 a b c d) (sg a b) true (0 : Nat)) (fun k => ?_) ?_
    · simp only [spec_l04Reduce.l0]
      rw [if_neg (by decide), mx_abs _ (by omega) (by omega), show ((g4 a b c d).natAbs : Int) = g4 a b c d from by omega]; rfl
    refine Ev.step (fun k => spec_l04Reduce_l1s [a, b, c, d] _ _ true 0 (by decide) rfl hg _ (vx a ha) k) ?_
    refine Ev.step (fun k => spec_l04Reduce_l1s [rM a b c d a, b, c, d] _ _ _ 1 (by decide) rfl hg _ (vx b hb) k) ?_
    refine Ev.step (fun k => spec_l04Reduce_l1s [rM a b c d a, rM a b c d b, c, d] _ _ _ 2 (by decide) rfl hg _ (vx c hc) k) ?_
    refine Ev.step (fun k => spec_l04Reduce_l1s [rM a b c d a, rM a b c d b, rM a b c d c, d] _ _ _ 3 (by decide) rfl hg _ (vx d hd) k) ?_
    refine Ev.step (f := fun _ => some (rM a b c d a, rM a b c d b, rM a b c d c, rM a b c d d, fitM a b c d)) (fun k => ?_) (Ev.now _)
    simp only [spec_l04Reduce.l1]
    rw [if_neg (by decide), if_pos (by simp), if_pos (by simp), if_pos (by simp), if_pos (by simp)]
    unfold fitM
    simp only [Bool.true_and, Bool.and_assoc]
    rfl
  unfold spec_l04Reduce.f
  unfold bd62 at ha hb hc hd
  refine spec_l04Reduce_l0s [a, b, c, d] 0 0 0 (by decide) rfl (by omega) ha ?_
  show Ev (fun k => spec_l04Reduce.l0 k [a, b, c, d] (Int.gcd 0 a : Int) (if (0 : Int) = 0 then s1 a else 0) ((1 : Nat) : Int)) _
  rw [Int.gcd_zero_left, if_pos rfl]
  refine spec_l04Reduce_l0s [a, b, c, d] _ _ 1 (by decide) rfl (by omega) hb ?_
  show Ev (fun k => spec_l04Reduce.l0 k [a, b, c, d] (Int.gcd (a.natAbs : Int) b : Int) (if s1 a = 0 then s1 b else s1 a) ((2 : Nat) : Int)) _
  rw [q1, show (if s1 a = 0 then s1 b else s1 a) = sg a b from by unfold s1 sg; split <;> split <;> (try split) <;> (try split) <;> omega]
  refine spec_l04Reduce_l0s [a, b, c, d] _ _ 2 (by decide) rfl (by omega) hc ?_
  show Ev (fun k => spec_l04Reduce.l0 k [a, b, c, d] (Int.gcd (Int.gcd a b : Int) c : Int) (if sg a b = 0 then s1 c else sg a b) ((3 : Nat) : Int)) _
  rw [if_neg (by omega)]
  refine spec_l04Reduce_l0s [a, b, c, d] _ _ 3 (by decide) rfl (by omega) hd ?_
  show Ev (fun k => spec_l04Reduce.l0 k [a, b, c, d] (Int.gcd (Int.gcd (Int.gcd a b : Int) c : Int) d : Int) (if sg a b = 0 then s1 d else sg a b) ((4 : Nat) : Int)) _
  rw [if_neg (by omega), q4]
  exact fin

-- block spec_l04Times
theorem spec_l04Times_l (a b c d e f g h : Int) (r : Int × Int × Int × Int × Bool) (hr : Ev (fun k => spec_l04Reduce.f k (mulW a b e g) (mulW a b f h) (mulW c d e g) (mulW c d f h)) r) : Ev (fun k => spec_l04Times.f k a b c d e f g h) r := by
  have w0 : wrap64 1 = 1 := wid (by omega) (by omega)
  have w1 : wrap64 2 = 2 := wid (by omega) (by omega)
  unfold spec_l04Times.f
  refine Ev.step (f := fun k => spec_l04Times.l1 k 0 0 a b c d e f g h 0 0 0 0) (fun k => by simp [spec_l04Times.l0]) ?_
  refine Ev.step (f := fun k => spec_l04Times.l1 k 0 1 a b c d e f g h (mulW a b e g) 0 0 0) (fun k => by simp [spec_l04Times.l1, w0, mulW]) ?_
  refine Ev.step (f := fun k => spec_l04Times.l1 k 0 2 a b c d e f g h (mulW a b e g) (mulW a b f h) 0 0) (fun k => by simp [spec_l04Times.l1, w1, mulW]) ?_
  refine Ev.step (f := fun k => spec_l04Times.l0 k 1 a b c d e f g h (mulW a b e g) (mulW a b f h) 0 0) (fun k => by simp [spec_l04Times.l1, w0]) ?_
  refine Ev.step (f := fun k => spec_l04Times.l1 k 1 0 a b c d e f g h (mulW a b e g) (mulW a b f h) 0 0) (fun k => by simp [spec_l04Times.l0]) ?_
  refine Ev.step (f := fun k => spec_l04Times.l1 k 1 1 a b c d e f g h (mulW a b e g) (mulW a b f h) (mulW c d e g) 0) (fun k => by simp [spec_l04Times.l1, w0, mulW]) ?_
  refine Ev.step (f := fun k => spec_l04Times.l1 k 1 2 a b c d e f g h (mulW a b e g) (mulW a b f h) (mulW c d e g) (mulW c d f h)) (fun k => by simp [spec_l04Times.l1, w1, mulW]) ?_
  refine Ev.step (f := fun k => spec_l04Times.l0 k 2 a b c d e f g h (mulW a b e g) (mulW a b f h) (mulW c d e g) (mulW c d f h)) (fun k => by simp [spec_l04Times.l1, w1]) ?_
  refine Ev.step (f := fun k => (spec_l04Reduce.f k (mulW a b e g) (mulW a b f h) (mulW c d e g) (mulW c d f h)).bind fun t => some (t.1, t.2.1, t.2.2.1, t.2.2.2.1, t.2.2.2.2)) (fun k => by simp [spec_l04Times.l0]) ?_
  exact Ev.bind hr (Ev.now _)
/-- The reduced product of two matrices. -/
theorem spec_l04Times_ev {g h : M4} (hg : g.ok = true) (hh : h.ok = true) : Ev (fun k => spec_l04Times.f k g.a g.b g.c g.d h.a h.b h.c h.d) ((g.mul h).red.a, (g.mul h).red.b, (g.mul h).red.c, (g.mul h).red.d, (g.mul h).red.ok) := by
  obtain ⟨g1, g2, g3, g4⟩ := M4.fit_bd (M4.ok_fit hg)
  obtain ⟨h1, h2, h3, h4⟩ := M4.fit_bd (M4.ok_fit hh)
  have hdet : (g.mul h).det ≠ 0 := by rw [M4.det_mul]; exact Int.mul_ne_zero (M4.ok_det hg) (M4.ok_det hh)
  have m0 : (0 : Int) ≤ 1000 := by omega
  refine spec_l04Times_l _ _ _ _ _ _ _ _ _ ?_
  rw [mulW_eq m0 (by omega) g1 g2 h1 h3, mulW_eq m0 (by omega) g1 g2 h2 h4, mulW_eq m0 (by omega) g3 g4 h1 h3, mulW_eq m0 (by omega) g3 g4 h2 h4]
  have bd : ∀ {x y u v : Int}, (-1000 ≤ x ∧ x ≤ 1000) → (-1000 ≤ y ∧ y ≤ 1000) → (-1000 ≤ u ∧ u ≤ 1000) → (-1000 ≤ v ∧ v ≤ 1000) → bd62 (x * u + y * v) := by
    intro x y u v hx hy hu hv
    obtain ⟨a1, a2⟩ := mul_bd hx.1 hx.2 hu.1 hu.2 m0 m0
    obtain ⟨b1, b2⟩ := mul_bd hy.1 hy.2 hv.1 hv.2 m0 m0
    unfold bd62; omega
  have := spec_l04Reduce_ev (bd g1 g2 h1 h3) (bd g1 g2 h2 h4) (bd g3 g4 h1 h3) (bd g3 g4 h2 h4) (M4.row_ne hdet)
  rw [M4.ok_of (M4.red_det hdet)]
  exact this

-- block impl_gcd
theorem impl_gcd_l (n : Nat) : ∀ (a b : Int), b.natAbs < n → -9223372036854775807 ≤ a → a ≤ 9223372036854775807 → -9223372036854775807 ≤ b → b ≤ 9223372036854775807 → Ev (fun k => impl_gcd.l0 k a b) (Int.gcd a b : Int) := by
  induction n with
  | zero => intro a b h; omega
  | succ n ih =>
    intro a b hn ha1 ha2 hb1 hb2
    by_cases hb : b = 0
    · subst hb
      refine Ev.step (f := fun _ => some (mx a (wrap64 (-a)))) (fun k => by simp only [impl_gcd.l0, if_true]) ?_
      rw [mx_abs a ha1 ha2, Int.gcd_zero_right]; exact Ev.now _
    · have hlt : (Int.tmod a b).natAbs < b.natAbs := by rw [Int.natAbs_tmod]; exact Nat.mod_lt _ (by omega)
      refine Ev.step (f := fun k => impl_gcd.l0 k b (Int.tmod a b)) (fun k => by simp only [impl_gcd.l0]; rw [if_neg hb]) ?_
      rw [← gcd_step a b hb]
      exact ih _ _ (by omega) hb1 hb2 (by omega) (by omega)
theorem impl_gcd_ev (a b : Int) (ha1 : -9223372036854775807 ≤ a) (ha2 : a ≤ 9223372036854775807) (hb1 : -9223372036854775807 ≤ b) (hb2 : b ≤ 9223372036854775807) : Ev (fun k => impl_gcd.f k a b) (Int.gcd a b : Int) := by
  unfold impl_gcd.f
  exact impl_gcd_l (b.natAbs + 1) a b (by omega) ha1 ha2 hb1 hb2

-- block impl_reduced
theorem impl_reduced_l {a b c d y : Int} (ha : bd62 a) (hb : bd62 b) (hc : bd62 c) (hd : bd62 d) (hy : y ≠ 0) :
    Ev (fun k => impl_reduced.l0 k y 0 a b c d) (Int.tdiv a y, Int.tdiv b y, Int.tdiv c y, Int.tdiv d y, matB (Int.tdiv a y) (Int.tdiv b y) (Int.tdiv c y) (Int.tdiv d y)) := by
  have w0 : wrap64 1 = 1 := wid (by omega) (by omega)
  have w1 : wrap64 2 = 2 := wid (by omega) (by omega)
  have wx : ∀ x, bd62 x → wrap64 (Int.tdiv x y) = Int.tdiv x y := fun x hx => by have := tdiv_bd y hx; exact wid (by omega) (by omega)
  refine Ev.step (f := fun k => impl_reduced.l1 k y 0 0 0 a b c d) (fun k => by simp [impl_reduced.l0]) ?_
  refine Ev.step (f := fun k => impl_reduced.l1 k y 0 0 1 (Int.tdiv a y) b c d) (fun k => by simp [impl_reduced.l1, hy, w0, wx a ha]) ?_
  refine Ev.step (f := fun k => impl_reduced.l1 k y 0 0 2 (Int.tdiv a y) (Int.tdiv b y) c d) (fun k => by simp [impl_reduced.l1, hy, w1, wx b hb]) ?_
  refine Ev.step (f := fun k => impl_reduced.l0 k y 1 (Int.tdiv a y) (Int.tdiv b y) c d) (fun k => by simp [impl_reduced.l1, w0]) ?_
  refine Ev.step (f := fun k => impl_reduced.l1 k y 1 1 0 (Int.tdiv a y) (Int.tdiv b y) c d) (fun k => by simp [impl_reduced.l0]) ?_
  refine Ev.step (f := fun k => impl_reduced.l1 k y 1 1 1 (Int.tdiv a y) (Int.tdiv b y) (Int.tdiv c y) d) (fun k => by simp [impl_reduced.l1, hy, w0, wx c hc]) ?_
  refine Ev.step (f := fun k => impl_reduced.l1 k y 1 1 2 (Int.tdiv a y) (Int.tdiv b y) (Int.tdiv c y) (Int.tdiv d y)) (fun k => by simp [impl_reduced.l1, hy, w1, wx d hd]) ?_
  refine Ev.step (f := fun k => impl_reduced.l0 k y 2 (Int.tdiv a y) (Int.tdiv b y) (Int.tdiv c y) (Int.tdiv d y)) (fun k => by simp [impl_reduced.l1, w1]) ?_
  refine Ev.step (f := fun k => (impl_IsMatrix.f k (Int.tdiv a y) (Int.tdiv b y) (Int.tdiv c y) (Int.tdiv d y)).bind fun t => some (Int.tdiv a y, Int.tdiv b y, Int.tdiv c y, Int.tdiv d y, t)) (fun k => by simp [impl_reduced.l0]) ?_
  exact Ev.bind (impl_IsMatrix_ev _ _ _ _) (Ev.now _)
theorem impl_reduced_ev {a b c d : Int} (ha : bd62 a) (hb : bd62 b) (hc : bd62 c) (hd : bd62 d) (hne : a ≠ 0 ∨ b ≠ 0) :
    Ev (fun k => impl_reduced.f k a b c d) (rM a b c d a, rM a b c d b, rM a b c d c, rM a b c d d, matB (rM a b c d a) (rM a b c d b) (rM a b c d c) (rM a b c d d)) := by
  have k1 := gcd_le ha hb
  have k2 := gcd_le hc hd
  have k3 : g4 a b c d ≤ 4611686018427387904 := gcd_le (a := Int.gcd a b) (b := Int.gcd c d) (by omega) (by omega)
  have k0 := g4_nonneg a b c d
  have hy := byM_ne c d hne
  have main := impl_reduced_l ha hb hc hd hy
  unfold bd62 at ha hb hc hd
  unfold impl_reduced.f
  refine Ev.bind (impl_gcd_ev a b (by omega) (by omega) (by omega) (by omega)) (Ev.bind (impl_gcd_ev c d (by omega) (by omega) (by omega) (by omega)) (Ev.bind (impl_gcd_ev _ _ (by omega) (by omega) (by omega) (by omega)) ?_))
  have neg : sg a b = -1 → Ev (fun k => impl_reduced.j0 k (g4 a b c d) true a b c d) (rM a b c d a, rM a b c d b, rM a b c d c, rM a b c d d, matB (rM a b c d a) (rM a b c d b) (rM a b c d c) (rM a b c d d)) := by
    intro e
    refine Ev.step (f := fun k => impl_reduced.j1 k (wrap64 (-(g4 a b c d))) a b c d) (fun k => by simp [impl_reduced.j0]) ?_
    refine Ev.step (f := fun k => impl_reduced.l0 k (wrap64 (-(g4 a b c d))) 0 a b c d) (fun k => by simp [impl_reduced.j1]) ?_
    rw [wid (n := -(g4 a b c d)) (by omega) (by omega), show -(g4 a b c d) = byM a b c d from by unfold byM; rw [e]; omega]
    exact main
  have pos : sg a b = 1 → Ev (fun k => impl_reduced.j0 k (g4 a b c d) false a b c d) (rM a b c d a, rM a b c d b, rM a b c d c, rM a b c d d, matB (rM a b c d a) (rM a b c d b) (rM a b c d c) (rM a b c d d)) := by
    intro e
    refine Ev.step (f := fun k => impl_reduced.j1 k (g4 a b c d) a b c d) (fun k => by simp [impl_reduced.j0]) ?_
    refine Ev.step (f := fun k => impl_reduced.l0 k (g4 a b c d) 0 a b c d) (fun k => by simp [impl_reduced.j1]) ?_
    rw [show g4 a b c d = byM a b c d from by unfold byM; rw [e]; omega]
    exact main
  by_cases h1 : a < 0
  · simp only [if_pos h1]; exact neg (by unfold sg; rw [if_pos (.inl h1)])
  · simp only [if_neg h1]
    by_cases h2 : a = 0
    · simp only [if_pos h2]
      by_cases h3 : b < 0
      · rw [decide_eq_true h3]; exact neg (by unfold sg; rw [if_pos (.inr ⟨h2, h3⟩)])
      · rw [decide_eq_false h3]; exact pos (by unfold sg; rw [if_neg (by omega)])
    · simp only [if_neg h2]; exact pos (by unfold sg; rw [if_neg (by omega)])

-- block impl_product
theorem impl_product_l (a b c d e f g h : Int) (r : Int × Int × Int × Int × Bool) (hr : Ev (fun k => impl_reduced.f k (mulW a b e g) (mulW a b f h) (mulW c d e g) (mulW c d f h)) r) : Ev (fun k => impl_product.f k a b c d e f g h) r := by
  have w0 : wrap64 1 = 1 := wid (by omega) (by omega)
  have w1 : wrap64 2 = 2 := wid (by omega) (by omega)
  unfold impl_product.f
  refine Ev.step (f := fun k => impl_product.l1 k 0 0 0 a b c d e f g h 0 0 0 0) (fun k => by simp [impl_product.l0]) ?_
  refine Ev.step (f := fun k => impl_product.l1 k 0 0 1 a b c d e f g h (mulW a b e g) 0 0 0) (fun k => by simp [impl_product.l1, w0, mulW]) ?_
  refine Ev.step (f := fun k => impl_product.l1 k 0 0 2 a b c d e f g h (mulW a b e g) (mulW a b f h) 0 0) (fun k => by simp [impl_product.l1, w1, mulW]) ?_
  refine Ev.step (f := fun k => impl_product.l0 k 1 a b c d e f g h (mulW a b e g) (mulW a b f h) 0 0) (fun k => by simp [impl_product.l1, w0]) ?_
  refine Ev.step (f := fun k => impl_product.l1 k 1 1 0 a b c d e f g h (mulW a b e g) (mulW a b f h) 0 0) (fun k => by simp [impl_product.l0]) ?_
  refine Ev.step (f := fun k => impl_product.l1 k 1 1 1 a b c d e f g h (mulW a b e g) (mulW a b f h) (mulW c d e g) 0) (fun k => by simp [impl_product.l1, w0, mulW]) ?_
  refine Ev.step (f := fun k => impl_product.l1 k 1 1 2 a b c d e f g h (mulW a b e g) (mulW a b f h) (mulW c d e g) (mulW c d f h)) (fun k => by simp [impl_product.l1, w1, mulW]) ?_
  refine Ev.step (f := fun k => impl_product.l0 k 2 a b c d e f g h (mulW a b e g) (mulW a b f h) (mulW c d e g) (mulW c d f h)) (fun k => by simp [impl_product.l1, w1]) ?_
  refine Ev.step (f := fun k => (impl_reduced.f k (mulW a b e g) (mulW a b f h) (mulW c d e g) (mulW c d f h)).bind fun t => some (t.1, t.2.1, t.2.2.1, t.2.2.2.1, t.2.2.2.2)) (fun k => by simp [impl_product.l0]) ?_
  exact Ev.bind hr (Ev.now _)
/-- The reduced product of two matrices. -/
theorem impl_product_ev {g h : M4} (hg : g.ok = true) (hh : h.ok = true) : Ev (fun k => impl_product.f k g.a g.b g.c g.d h.a h.b h.c h.d) ((g.mul h).red.a, (g.mul h).red.b, (g.mul h).red.c, (g.mul h).red.d, (g.mul h).red.ok) := by
  obtain ⟨g1, g2, g3, g4⟩ := M4.fit_bd (M4.ok_fit hg)
  obtain ⟨h1, h2, h3, h4⟩ := M4.fit_bd (M4.ok_fit hh)
  have hdet : (g.mul h).det ≠ 0 := by rw [M4.det_mul]; exact Int.mul_ne_zero (M4.ok_det hg) (M4.ok_det hh)
  have m0 : (0 : Int) ≤ 1000 := by omega
  refine impl_product_l _ _ _ _ _ _ _ _ _ ?_
  rw [mulW_eq m0 (by omega) g1 g2 h1 h3, mulW_eq m0 (by omega) g1 g2 h2 h4, mulW_eq m0 (by omega) g3 g4 h1 h3, mulW_eq m0 (by omega) g3 g4 h2 h4]
  have bd : ∀ {x y u v : Int}, (-1000 ≤ x ∧ x ≤ 1000) → (-1000 ≤ y ∧ y ≤ 1000) → (-1000 ≤ u ∧ u ≤ 1000) → (-1000 ≤ v ∧ v ≤ 1000) → bd62 (x * u + y * v) := by
    intro x y u v hx hy hu hv
    obtain ⟨a1, a2⟩ := mul_bd hx.1 hx.2 hu.1 hu.2 m0 m0
    obtain ⟨b1, b2⟩ := mul_bd hy.1 hy.2 hv.1 hv.2 m0 m0
    unfold bd62; omega
  have := impl_reduced_ev (bd g1 g2 h1 h3) (bd g1 g2 h2 h4) (bd g3 g4 h1 h3) (bd g3 g4 h2 h4) (M4.row_ne hdet)
  exact this

-- block impl_reduce
theorem impl_reduce_ev {a b c d : Int} (ha : bd62 a) (hb : bd62 b) (hc : bd62 c) (hd : bd62 d) (hne : a ≠ 0 ∨ b ≠ 0) :
    Ev (fun k => impl_reduce.f k a b c d) (rM a b c d a, rM a b c d b, rM a b c d c, rM a b c d d) := by
  unfold impl_reduce.f
  exact Ev.bind (impl_reduced_ev ha hb hc hd hne) (Ev.now _)

-- block impl_inverted
theorem wneg {x M : Int} (hM : M ≤ 4611686018427387904) (h : -M ≤ x ∧ x ≤ M) : wrap64 (-x) = -x := wid (by omega) (by omega)
theorem impl_inverted_ev {g : M4} (hg : g.ok = true) : Ev (fun k => impl_inverted.f k g.a g.b g.c g.d) (g.adj.red.a, g.adj.red.b, g.adj.red.c, g.adj.red.d) := by
  obtain ⟨g1, g2, g3, g4⟩ := M4.fit_bd (M4.ok_fit hg)
  unfold impl_inverted.f
  rw [wneg (by omega) g2, wneg (by omega) g3]
  have := impl_reduce_ev (a := g.d) (b := -g.b) (c := -g.c) (d := g.a) (by unfold bd62; omega) (by unfold bd62; omega) (by unfold bd62; omega) (by unfold bd62; omega) (M4.row_ne (g := g.adj) (by rw [M4.adj_det]; exact M4.ok_det hg))
  exact Ev.bind this (Ev.now _)

-- block spec_l04Inverse
theorem wneg' {x M : Int} (hM : M ≤ 4611686018427387904) (h : -M ≤ x ∧ x ≤ M) : wrap64 (-x) = -x := wid (by omega) (by omega)
theorem spec_l04Inverse_ev {g : M4} (hg : g.ok = true) : Ev (fun k => spec_l04Inverse.f k g.a g.b g.c g.d) (g.adj.red.a, g.adj.red.b, g.adj.red.c, g.adj.red.d) := by
  obtain ⟨g1, g2, g3, g4⟩ := M4.fit_bd (M4.ok_fit hg)
  unfold spec_l04Inverse.f
  rw [wneg' (by omega) g2, wneg' (by omega) g3]
  have := spec_l04Reduce_ev (a := g.d) (b := -g.b) (c := -g.c) (d := g.a) (by unfold bd62; omega) (by unfold bd62; omega) (by unfold bd62; omega) (by unfold bd62; omega) (M4.row_ne (g := g.adj) (by rw [M4.adj_det]; exact M4.ok_det hg))
  exact Ev.bind this (Ev.now _)

-- block wordB
/-- A letter of a word for a movers. -/
def letterB (a x : Int) : Bool := !(x == 0) && (decide (-a ≤ x) && decide (x ≤ a))
def wordB (a : Int) (l : List Int) : Bool := decide (1 ≤ a ∧ a ≤ 4 ∧ l.length ≤ 12) && l.all (letterB a)
theorem spec_word_l (a : Int) (l : List Int) (h1 : 1 ≤ a) (h2 : a ≤ 4) (hl : l.length ≤ 35184372088832) : Ev (fun k => spec_l09Word.l0 k a l 0) (if l.all (letterB a) then true else false) := by
  rw [← all_range_rd]
  have stepj : ∀ (i : Nat) (r : Bool), i < l.length → letterB a (rd l (i : Int)) = true → Ev (fun k => spec_l09Word.l0 k a l ((i : Int) + 1)) r → Ev (fun k => spec_l09Word.l0 k a l i) r := by
    intro i r hi hp hr
    refine Ev.step (f := fun k => spec_l09Word.l0 k a l ((i : Int) + 1)) (fun k => ?_) hr
    simp only [letterB, Bool.and_eq_true, Bool.not_eq_true', beq_eq_false_iff_ne, decide_eq_true_eq] at hp
    simp only [spec_l09Word.l0]
    rw [if_pos (by omega), if_pos (by omega), if_neg hp.1, In_eq, wid (by omega) (by omega), decide_eq_true hp.2]
    simp only [Option.bind_some, if_true]
    rw [wid (by omega) (by omega)]
  refine all_ev (fun k i => spec_l09Word.l0 k a l i) l.length (fun i => letterB a (rd l (i : Int))) true false (fun i hi hp => stepj i true hi hp) (fun i hi hp => stepj i false hi hp) ?_ ?_
  · intro i hi hp
    refine Ev.step (f := fun _ => some false) (fun k => ?_) (Ev.now _)
    simp only [spec_l09Word.l0]
    rw [if_pos (by omega), if_pos (by omega)]
    by_cases e : rd l (i : Int) = 0
    · rw [if_pos e]
    · rw [if_neg e, In_eq, wid (by omega) (by omega), decide_eq_false]
      · simp
      · intro h
        simp only [letterB, Bool.and_eq_false_iff, Bool.not_eq_false', beq_iff_eq, decide_eq_false_iff_not] at hp
        omega
  · exact Ev.step (f := fun _ => some true) (fun k => by simp only [spec_l09Word.l0]; rw [if_neg (by omega)]) (Ev.now _)
theorem spec_word (a : Int) (l : List Int) (hl : l.length ≤ 35184372088832) : Ev (fun k => spec_l09Word.f k a l) (wordB a l) := by
  have hno : Ev (fun k => spec_l09Word.j0 k a l true) false := Ev.step (f := fun _ => some false) (fun k => by simp only [spec_l09Word.j0]; rw [if_pos trivial]) (Ev.now _)
  unfold spec_l09Word.f
  refine Ev.bindv (In_eq _ _ _) ?_
  by_cases h : 1 ≤ a ∧ a ≤ 4
  · rw [decide_eq_true h]
    simp only [if_true]
    by_cases h12 : l.length ≤ 12
    · rw [show decide ((l.length : Int) > 12) = false from decide_eq_false (by omega)]
      unfold wordB
      rw [decide_eq_true (⟨h.1, h.2, h12⟩ : 1 ≤ a ∧ a ≤ 4 ∧ l.length ≤ 12), Bool.true_and]
      refine Ev.step (f := fun k => spec_l09Word.l0 k a l 0) (fun k => by simp only [spec_l09Word.j0]; rw [if_neg (by decide)]) ?_
      have h := spec_word_l a l h.1 h.2 hl
      rwa [show (if l.all (letterB a) = true then true else false) = l.all (letterB a) from by cases l.all (letterB a) <;> rfl] at h
    · rw [show decide ((l.length : Int) > 12) = true from decide_eq_true (by omega)]
      unfold wordB
      rw [decide_eq_false (fun h => h12 h.2.2), Bool.false_and]
      exact hno
  · rw [decide_eq_false h]
    simp only [Bool.false_eq_true, if_false]
    unfold wordB
    rw [decide_eq_false (fun h2 => h ⟨h2.1, h2.2.1⟩), Bool.false_and]
    exact hno
theorem within_one (a x : Int) (h1 : 1 ≤ a) (h2 : a ≤ 4) : Ev (fun k => impl_within.f k a [x]) (decide (-a ≤ x) && decide (x ≤ a)) := by
  unfold impl_within.f
  have e0 : rd [x] 0 = x := rfl
  have w : wrap64 (-a) = -a := wid (by omega) (by omega)
  by_cases hlo : x < -a
  · refine Ev.step (f := fun _ => some false) (fun k => ?_) ?_
    · simp only [impl_within.l0, List.length_singleton, e0, w]
      rw [if_pos (by decide), if_pos (by decide), if_pos (by decide), if_pos hlo]
    · rw [decide_eq_false (by omega), Bool.false_and]; exact Ev.now _
  · by_cases hhi : x > a
    · refine Ev.step (f := fun _ => some false) (fun k => ?_) ?_
      · simp only [impl_within.l0, List.length_singleton, e0, w]
        rw [if_pos (by decide), if_pos (by decide), if_pos (by decide), if_neg hlo, if_pos hhi]
      · rw [decide_eq_false (show ¬ x ≤ a by omega), Bool.and_false]; exact Ev.now _
    · refine Ev.step (f := fun k => impl_within.l0 k a [x] 1 1) (fun k => ?_) ?_
      · simp only [impl_within.l0, List.length_singleton, e0, w]
        rw [if_pos (by decide), if_pos (by decide), if_pos (by decide), if_neg hlo, if_neg hhi, wid (by decide) (by decide)]; rfl
      · rw [decide_eq_true (show -a ≤ x by omega), decide_eq_true (show x ≤ a by omega)]
        exact Ev.step (f := fun _ => some true) (fun k => by simp only [impl_within.l0]; rw [if_neg (by decide)]) (Ev.now _)
theorem impl_word_l (a : Int) (l : List Int) (h1 : 1 ≤ a) (h2 : a ≤ 4) (hl : l.length ≤ 35184372088832) : Ev (fun k => impl_isWord.l0 k a l l (l.length : Int) 0) (if l.all (letterB a) then decide ((l.length : Int) ≤ 12) else false) := by
  rw [← all_range_rd]
  have stepj : ∀ (i : Nat) (r : Bool), i < l.length → letterB a (rd l (i : Int)) = true → Ev (fun k => impl_isWord.l0 k a l l (l.length : Int) ((i : Int) + 1)) r → Ev (fun k => impl_isWord.l0 k a l l (l.length : Int) i) r := by
    intro i r hi hp hr
    have hp2 := hp
    simp only [letterB, Bool.and_eq_true, Bool.not_eq_true', beq_eq_false_iff_ne, decide_eq_true_eq] at hp
    refine Ev.step (f := fun k => (impl_within.f k a [rd l (i : Int)]).bind fun t => if t = true then impl_isWord.l0 k a l l (l.length : Int) ((i : Int) + 1) else some false) (fun k => ?_) ?_
    · simp only [impl_isWord.l0]
      rw [if_pos (by omega), if_pos (by omega), if_pos (by omega), if_neg hp.1, show wrap64 ((i : Int) + 1) = (i : Int) + 1 from wid (by omega) (by omega)]
    · refine Ev.bind (within_one a _ h1 h2) ?_
      rw [decide_eq_true hp.2.1, decide_eq_true hp.2.2]
      simpa using hr
  refine all_ev (fun k i => impl_isWord.l0 k a l l (l.length : Int) i) l.length (fun i => letterB a (rd l (i : Int))) (decide ((l.length : Int) ≤ 12)) false (fun i hi hp => stepj i _ hi hp) (fun i hi hp => stepj i _ hi hp) ?_ ?_
  · intro i hi hp
    by_cases e : rd l (i : Int) = 0
    · refine Ev.step (f := fun _ => some false) (fun k => ?_) (Ev.now _)
      simp only [impl_isWord.l0]
      rw [if_pos (by omega), if_pos (by omega), if_pos (by omega), if_pos e]
    · refine Ev.step (f := fun k => (impl_within.f k a [rd l (i : Int)]).bind fun t => if t = true then impl_isWord.l0 k a l l (l.length : Int) ((i : Int) + 1) else some false) (fun k => ?_) ?_
      · simp only [impl_isWord.l0]
        rw [if_pos (by omega), if_pos (by omega), if_pos (by omega), if_neg e, show wrap64 ((i : Int) + 1) = (i : Int) + 1 from wid (by omega) (by omega)]
      · refine Ev.bind (within_one a _ h1 h2) ?_
        rw [show (decide (-a ≤ rd l (i : Int)) && decide (rd l (i : Int) ≤ a)) = false from by
          simp only [letterB, Bool.and_eq_false_iff, Bool.not_eq_false', beq_iff_eq] at hp
          rcases hp with hp | hp
          · exact absurd hp e
          · rcases hp with hp | hp <;> simp only [hp, Bool.false_and, Bool.and_false]]
        simp only [Bool.false_eq_true, if_false]
        exact Ev.now _
  · exact Ev.step (f := fun _ => some (decide ((l.length : Int) ≤ 12))) (fun k => by simp only [impl_isWord.l0]; rw [if_neg (by omega)]) (Ev.now _)

-- block laws_toInt64S
theorem laws_toInt64S_ev (l : List Int) (hl : l.length ≤ 35184372088832) : Ev (fun k => laws_toInt64S.f k l) l := by
  refine Ev.congr (f := fun k => laws_toInt64S.l0 k l (List.replicate l.length 0) 0) (fun k => ?_) ?_
  · unfold laws_toInt64S.f
    rw [if_pos (by omega), if_pos (by rw [Int.toNat_natCast]; exact hl), Int.toNat_natCast]
  · refine copy_ev (fun k dst i => laws_toInt64S.l0 k l dst i) l (fun i => rd l i) ?_ ?_ (fun i h => rd_nat l i h) _ (by simp)
    · intro k dst i hi hd
      simp only [laws_toInt64S.l0]
      rw [if_pos (by omega), if_pos (by omega), if_pos (by omega), Int.toNat_natCast, wid (by omega) (by omega)]
    · intro k dst i hi hd
      simp only [laws_toInt64S.l0]
      rw [if_neg (by omega)]
theorem laws_eqInt64S_ev (l : List Int) (hl : l.length ≤ 35184372088832) : Ev (fun k => laws_eqInt64S.f k l l) true := by
  have key : ∀ (d i : Nat), i + d = l.length → Ev (fun k => laws_eqInt64S.l0 k l l i) true := by
    intro d
    induction d with
    | zero => intro i hi; exact Ev.step (f := fun _ => some true) (fun k => by simp only [laws_eqInt64S.l0]; rw [if_neg (by omega)]) (Ev.now _)
    | succ d ih =>
      intro i hi
      refine Ev.step (f := fun k => laws_eqInt64S.l0 k l l ((i + 1 : Nat) : Int)) (fun k => ?_) (ih (i + 1) (by omega))
      simp only [laws_eqInt64S.l0]
      rw [if_pos (by omega), if_pos (by omega), if_pos (by omega), if_pos trivial, wid (by omega) (by omega)]; rfl
  refine Ev.congr (f := fun k => laws_eqInt64S.l0 k l l 0) (fun k => ?_) (key l.length 0 (by omega))
  unfold laws_eqInt64S.f; rw [if_pos rfl]

theorem no_ev {β : Type} (g : Nat → Int → Option β) (n : Nat) (p : Nat → Bool) (no : β)
    (hstep : ∀ (i : Nat) (r : β), i < n → p i = true → Ev (fun k => g k ((i : Int) + 1)) r → Ev (fun k => g k i) r)
    (hno : ∀ (i : Nat), i < n → p i = false → Ev (fun k => g k i) no)
    (h : (List.range n).all p = false) : Ev (fun k => g k 0) no := by
  have key : ∀ (d i : Nat), i + d = n → (∃ j, i ≤ j ∧ j < n ∧ p j = false) → Ev (fun k => g k i) no := by
    intro d
    induction d with
    | zero => intro i hi ⟨j, h1, h2, _⟩; omega
    | succ d ih =>
      intro i hi ⟨j, h1, h2, h3⟩
      cases hp : p i with
      | false => exact hno i (by omega) hp
      | true =>
        refine hstep i no (by omega) hp (ih (i + 1) (by omega) ⟨j, ?_, h2, h3⟩)
        rcases Nat.lt_or_ge i j with h | h
        · omega
        · exact absurd (show p i = false from (show i = j by omega) ▸ h3) (by rw [hp]; decide)
  refine key n 0 (by omega) ?_
  obtain ⟨j, h1, h2⟩ := List.all_eq_false.1 h
  exact ⟨j, by omega, List.mem_range.1 h1, Bool.eq_false_iff.2 h2⟩
/-- The matrix of a letter, as the program has it; as the reference has it. -/
def letW2 (l : List S26) (n : Int) : M4 := if n < 0 then (m4 (l.getD (-n - 1).toNat z26)).adj.red else (m4 (l.getD (n - 1).toNat z26)).red
def letS2 (l : List S26) (n : Int) : M4 := if n < 0 then (m4 (l.getD (-n - 1).toNat z26)).adj.red else m4 (l.getD (n - 1).toNat z26)
theorem adj_ok2 {g : M4} (h : g.ok = true) : g.adj.ok = true := by
  rw [M4.ok_of (by rw [M4.adj_det]; exact M4.ok_det h)]
  obtain ⟨g1, g2, g3, g4⟩ := M4.fit_bd (M4.ok_fit h)
  unfold M4.fit M4.adj
  simp only [ent_of (show -1000 ≤ g.d ∧ g.d ≤ 1000 from g4), ent_of (show -1000 ≤ -g.b ∧ -g.b ≤ 1000 by omega), ent_of (show -1000 ≤ -g.c ∧ -g.c ≤ 1000 by omega), ent_of g1, Bool.and_self]
theorem getD_ok2 {l : List S26} (h : ∀ x ∈ l, (m4 x).ok = true) (i : Nat) (hi : i < l.length) : (m4 (l.getD i z26)).ok = true := by
  rw [List.getD_eq_getElem?_getD, List.getElem?_eq_getElem hi]
  exact h _ (List.getElem_mem hi)
section
variable (l : List S26) (h4 : l.length ≤ 4) (hok : ∀ x ∈ l, (m4 x).ok = true)
include h4 hok in
theorem let_ok {n : Int} (hn : letterB (l.length : Int) n = true) : (letW2 l n).ok = true ∧ (letS2 l n).ok = true ∧ ∀ A : M4, A.ok = true → (A.mul (letS2 l n)).red = (A.mul (letW2 l n)).red := by
  simp only [letterB, Bool.and_eq_true, Bool.not_eq_true', beq_eq_false_iff_ne, decide_eq_true_eq] at hn
  unfold letW2 letS2
  by_cases h : n < 0
  · simp only [if_pos h]
    have := M4.red_ok (adj_ok2 (getD_ok2 hok (-n - 1).toNat (by omega)))
    exact ⟨this, this, fun _ _ => trivial⟩
  · simp only [if_neg h]
    have := getD_ok2 hok (n - 1).toNat (by omega)
    exact ⟨M4.red_ok this, this, fun A hA => (M4.red_mul_red (M4.ok_det hA) (M4.ok_det this)).symm⟩
include h4 hok in
theorem impl_letter_ev {n : Int} (hn : letterB (l.length : Int) n = true) : Ev (fun k => impl_letterMatrix.f k l n) ((letW2 l n).a, (letW2 l n).b, (letW2 l n).c, (letW2 l n).d) := by
  simp only [letterB, Bool.and_eq_true, Bool.not_eq_true', beq_eq_false_iff_ne, decide_eq_true_eq] at hn
  unfold impl_letterMatrix.f letW2
  by_cases h : n < 0
  · simp only [if_pos h]
    rw [wid (n := -n) (by omega) (by omega), wid (n := -n - 1) (by omega) (by omega)]
    simp only [if_pos (show 0 ≤ -n - 1 by omega), if_pos (show -n - 1 < (l.length : Int) by omega)]
    exact Ev.bind (impl_inverted_ev (getD_ok2 hok (-n - 1).toNat (by omega))) (Ev.now _)
  · simp only [if_neg h]
    rw [wid (n := n - 1) (by omega) (by omega)]
    simp only [if_pos (show 0 ≤ n - 1 by omega), if_pos (show n - 1 < (l.length : Int) by omega)]
    have hg := getD_ok2 hok (n - 1).toNat (by omega)
    obtain ⟨g1, g2, g3, g4⟩ := M4.fit_bd (M4.ok_fit hg)
    have := impl_reduce_ev (a := (m4 (l.getD (n - 1).toNat z26)).a) (b := (m4 (l.getD (n - 1).toNat z26)).b) (c := (m4 (l.getD (n - 1).toNat z26)).c) (d := (m4 (l.getD (n - 1).toNat z26)).d) (by unfold bd62; omega) (by unfold bd62; omega) (by unfold bd62; omega) (by unfold bd62; omega) (M4.row_ne (M4.ok_det hg))
    exact Ev.bind this (Ev.now _)
include h4 hok in
theorem spec_letter_ev {n : Int} (hn : letterB (l.length : Int) n = true) : Ev (fun k => spec_l09Letter.f k l n) ((letS2 l n).a, (letS2 l n).b, (letS2 l n).c, (letS2 l n).d) := by
  simp only [letterB, Bool.and_eq_true, Bool.not_eq_true', beq_eq_false_iff_ne, decide_eq_true_eq] at hn
  unfold spec_l09Letter.f letS2
  by_cases h : n < 0
  · simp only [if_pos h, if_neg (show ¬ n > 0 by omega)]
    rw [wid (n := -n) (by omega) (by omega), wid (n := -n - 1) (by omega) (by omega)]
    simp only [if_pos (show 0 ≤ -n - 1 by omega), if_pos (show -n - 1 < (l.length : Int) by omega)]
    exact Ev.bind (spec_l04Inverse_ev (getD_ok2 hok (-n - 1).toNat (by omega))) (Ev.now _)
  · simp only [if_neg h, if_pos (show n > 0 by omega)]
    rw [wid (n := n - 1) (by omega) (by omega)]
    simp only [if_pos (show 0 ≤ n - 1 by omega), if_pos (show n - 1 < (l.length : Int) by omega)]
    exact Ev.now _
/-- The matrix of what is left of a word, from A on. -/
def wmW (l : List S26) (w : List Int) : Nat → Nat → M4 → Int × Int × Int × Int × Int
  | 0, _, A => (A.a, A.b, A.c, A.d, 0)
  | n + 1, i, A => if (A.mul (letW2 l (rd w (i : Int)))).red.ok then wmW l w n (i + 1) (A.mul (letW2 l (rd w (i : Int)))).red else (0, 0, 0, 0, 3)
include h4 hok in
theorem impl_wm_l (w : List Int) (hw12 : w.length ≤ 12) (hw : ∀ i, i < w.length → letterB (l.length : Int) (rd w (i : Int)) = true) (n : Nat) : ∀ (i : Nat) (A : M4), i + n = w.length → A.ok = true → Ev (fun k => impl_WordMatrix.l0 k l w w.length i A.a A.b A.c A.d) (wmW l w n i A) := by
  induction n with
  | zero =>
    intro i A hi hA
    exact Ev.step (f := fun _ => some (A.a, A.b, A.c, A.d, 0)) (fun k => by simp only [impl_WordMatrix.l0]; rw [if_neg (by omega)]) (Ev.now _)
  | succ n ih =>
    intro i A hi hA
    have hn := hw i (by omega)
    obtain ⟨k1, k2, k3⟩ := let_ok l h4 hok hn
    refine Ev.step (f := fun k => (impl_letterMatrix.f k l (rd w (i : Int))).bind fun g => (impl_product.f k A.a A.b A.c A.d g.1 g.2.1 g.2.2.1 g.2.2.2).bind fun t => if t.2.2.2.2 = true then impl_WordMatrix.l0 k l w w.length ((i + 1 : Nat) : Int) t.1 t.2.1 t.2.2.1 t.2.2.2.1 else some (0, 0, 0, 0, 3)) (fun k => ?_) (Ev.bind (impl_letter_ev l h4 hok hn) (Ev.bind (impl_product_ev hA k1) ?_))
    · simp only [impl_WordMatrix.l0]
      rw [if_pos (by omega), if_pos (by omega), if_pos (by omega), wid (n := (i : Int) + 1) (by omega) (by omega)]; rfl
    · unfold wmW
      cases h : (A.mul (letW2 l (rd w (i : Int)))).red.ok with
      | false => simp; exact Ev.now _
      | true => simp only [if_true]; exact ih (i + 1) _ (by omega) h
include h4 hok in
theorem spec_wm_l (w : List Int) (hw12 : w.length ≤ 12) (hw : ∀ i, i < w.length → letterB (l.length : Int) (rd w (i : Int)) = true) (n : Nat) : ∀ (i : Nat) (A : M4), i + n = w.length → A.ok = true → Ev (fun k => spec_WordMatrix.l1 k l w i A.a A.b A.c A.d) (wmW l w n i A) := by
  induction n with
  | zero =>
    intro i A hi hA
    exact Ev.step (f := fun _ => some (A.a, A.b, A.c, A.d, 0)) (fun k => by simp only [spec_WordMatrix.l1]; rw [if_neg (by omega)]) (Ev.now _)
  | succ n ih =>
    intro i A hi hA
    have hn := hw i (by omega)
    obtain ⟨k1, k2, k3⟩ := let_ok l h4 hok hn
    have hpr := spec_l04Times_ev hA k2
    rw [k3 A hA] at hpr
    refine Ev.step (f := fun k => (spec_l09Letter.f k l (rd w (i : Int))).bind fun g => (spec_l04Times.f k A.a A.b A.c A.d g.1 g.2.1 g.2.2.1 g.2.2.2).bind fun t => if t.2.2.2.2 = true then spec_WordMatrix.l1 k l w ((i + 1 : Nat) : Int) t.1 t.2.1 t.2.2.1 t.2.2.2.1 else some (0, 0, 0, 0, 3)) (fun k => ?_) (Ev.bind (spec_letter_ev l h4 hok hn) (Ev.bind hpr ?_))
    · simp only [spec_WordMatrix.l1]
      rw [if_pos (by omega), if_pos (by omega), wid (n := (i : Int) + 1) (by omega) (by omega)]; rfl
    · unfold wmW
      cases h : (A.mul (letW2 l (rd w (i : Int)))).red.ok with
      | false => simp; exact Ev.now _
      | true => simp only [if_true]; exact ih (i + 1) _ (by omega) h
end
def wordMW (l : List S26) (w : List Int) : Int × Int × Int × Int × Int := if l.all (fun x => (m4 x).ok) then (if wordB (l.length : Int) w then wmW l w w.length 0 M4.one else (0, 0, 0, 0, 2)) else (0, 0, 0, 0, 1)
theorem word_parts {a : Int} {w : List Int} (h : wordB a w = true) : (1 ≤ a ∧ a ≤ 4) ∧ w.length ≤ 12 ∧ ∀ i, i < w.length → letterB a (rd w (i : Int)) = true := by
  unfold wordB at h
  rw [Bool.and_eq_true, decide_eq_true_eq, List.all_eq_true] at h
  exact ⟨⟨h.1.1, h.1.2.1⟩, h.1.2.2, fun i hi => by rw [rd_nat w i hi]; exact h.2 _ (List.getElem_mem hi)⟩
theorem spec_WordMatrix_ev (l : List S26) (w : List Int) (hl : l.length ≤ 4611686018427387904) (hw : w.length ≤ 35184372088832) : Ev (fun k => spec_WordMatrix.f k l w) (wordMW l w) := by
  unfold spec_WordMatrix.f wordMW
  have hr : ∀ (i : Nat) (k : Nat), i < l.length → spec_WordMatrix.l0 (k + 1) l w i = (spec_l04Is.f k (l.getD i z26).f0.f0 (l.getD i z26).f0.f1 (l.getD i z26).f1.f0 (l.getD i z26).f1.f1).bind fun t => if t = true then spec_WordMatrix.l0 k l w ((i : Int) + 1) else some (0, 0, 0, 0, 1) := by
    intro i k hi
    simp only [spec_WordMatrix.l0]
    rw [if_pos (by omega), if_pos (by omega), wid (by omega) (by omega)]; rfl
  rw [← all_range_getD l z26 (fun x => (m4 x).ok)]
  by_cases hall : (List.range l.length).all (fun i => (m4 (l.getD i z26)).ok) = true
  · rw [if_pos hall]
    have := all_ev' (fun k i => spec_WordMatrix.l0 k l w i) l.length (fun i => (m4 (l.getD i z26)).ok) (if wordB (l.length : Int) w then wmW l w w.length 0 M4.one else (0, 0, 0, 0, 2)) (0, 0, 0, 0, 1) (by
      intro i r hi hb hr'
      refine Ev.step (hr i · hi) (Ev.bind (spec_l04Is_ev _ _ _ _) ?_)
      have hb' : matB (l.getD i z26).f0.f0 (l.getD i z26).f0.f1 (l.getD i z26).f1.f0 (l.getD i z26).f1.f1 = true := hb
      rw [hb']; simpa using hr') (by
      intro i hi hb
      refine Ev.step (hr i · hi) (Ev.bind (spec_l04Is_ev _ _ _ _) ?_)
      have hb' : matB (l.getD i z26).f0.f0 (l.getD i z26).f0.f1 (l.getD i z26).f1.f0 (l.getD i z26).f1.f1 = false := hb
      rw [hb']; simp; exact Ev.now _) (by
      refine Ev.step (f := fun k => (spec_l09Word.f k (l.length : Int) w).bind fun t => if t = true then spec_WordMatrix.l1 k l w (0 : Nat) 1 0 0 1 else some (0, 0, 0, 0, 2)) (fun k => by simp only [spec_WordMatrix.l0]; rw [if_neg (by omega)]; rfl) ?_
      refine Ev.bind (spec_word _ w hw) ?_
      cases hwB : wordB (l.length : Int) w with
      | false => simp; exact Ev.now _
      | true =>
        simp only [if_true]
        obtain ⟨p1, p2, p3⟩ := word_parts hwB
        have hok : ∀ x ∈ l, (m4 x).ok = true := by
          rw [all_range_getD l z26 (fun x => (m4 x).ok), List.all_eq_true] at hall
          exact hall
        exact spec_wm_l l (by omega) hok w p2 p3 w.length 0 M4.one (by omega) (by decide))
    rw [if_pos hall] at this
    exact this
  · rw [if_neg hall]
    refine no_ev (fun k i => spec_WordMatrix.l0 k l w i) l.length (fun i => (m4 (l.getD i z26)).ok) (0, 0, 0, 0, 1) (by
      intro i r hi hb hr'
      refine Ev.step (hr i · hi) (Ev.bind (spec_l04Is_ev _ _ _ _) ?_)
      have hb' : matB (l.getD i z26).f0.f0 (l.getD i z26).f0.f1 (l.getD i z26).f1.f0 (l.getD i z26).f1.f1 = true := hb
      rw [hb']; simpa using hr') (by
      intro i hi hb
      refine Ev.step (hr i · hi) (Ev.bind (spec_l04Is_ev _ _ _ _) ?_)
      have hb' : matB (l.getD i z26).f0.f0 (l.getD i z26).f0.f1 (l.getD i z26).f1.f0 (l.getD i z26).f1.f1 = false := hb
      rw [hb']; simp; exact Ev.now _) (Bool.eq_false_iff.2 hall)
theorem impl_word_ev (a : Int) (w : List Int) (h1 : 1 ≤ a) (h2 : a ≤ 4) (hl : w.length ≤ 35184372088832) : Ev (fun k => impl_isWord.f k a w) (wordB a w) := by
  unfold impl_isWord.f
  have := impl_word_l a w h1 h2 hl
  refine cast (congrArg _ ?_) this
  unfold wordB
  cases w.all (letterB a) with
  | false => simp
  | true => simp only [if_true, Bool.and_true]; exact decide_eq_decide.2 (by omega)
theorem impl_WordMatrix_ev (l : List S26) (w : List Int) (hl : l.length ≤ 4611686018427387904) (hw : w.length ≤ 35184372088832) : Ev (fun k => impl_WordMatrix.f k l w) (wordMW l w) := by
  unfold impl_WordMatrix.f wordMW
  refine Ev.bind (impl_areMatrices_ev l hl) ?_
  cases hall : l.all (fun x => (m4 x).ok) with
  | false => simp; exact Ev.now _
  | true =>
    simp only [if_true]
    have hok : ∀ x ∈ l, (m4 x).ok = true := List.all_eq_true.1 hall
    unfold impl_isMovers.f
    by_cases h : 1 ≤ (l.length : Int) ∧ (l.length : Int) ≤ 4
    · simp only [if_pos (show (l.length : Int) ≥ 1 from h.1), decide_eq_true h.2, Option.bind_some, if_true]
      refine Ev.bind (impl_word_ev _ w h.1 h.2 hw) ?_
      cases hwB : wordB (l.length : Int) w with
      | false => simp; exact Ev.now _
      | true =>
        obtain ⟨p1, p2, p3⟩ := word_parts hwB
        simp only [if_true, impl_one.f, Option.bind_some]
        exact impl_wm_l l (by omega) hok w p2 p3 w.length 0 M4.one (by omega) (by decide)
    · have hwf : wordB (l.length : Int) w = false := by unfold wordB; rw [decide_eq_false (fun h2 => h ⟨h2.1, h2.2.1⟩), Bool.false_and]
      rw [hwf]
      by_cases h1 : (l.length : Int) ≥ 1
      · simp only [if_pos h1, Option.bind_some, decide_eq_false (show ¬ (l.length : Int) ≤ 4 by omega), Bool.false_eq_true, if_false]; exact Ev.now _
      · simp only [if_neg h1, Option.bind_some, Bool.false_eq_true, if_false]; exact Ev.now _
theorem FnExactWordMatrix : laws_FnExactWordMatrix.Pure := by
  intro l w hmax _ hw8 _
  refine Ev.rounds ?_
  unfold laws_FnExactWordMatrix.f laws_szMatrixS.f
  by_cases hbw : (w.length : Int) > 1048576
  · simp only [if_pos hbw]; exact Ev.now _
  simp only [if_neg hbw]
  rw [szM l.length hmax]
  by_cases hbig : 1048576 - (l.length : Int) < 0
  · simp only [if_pos hbig, Option.bind_some]
    simp only [if_pos (show (-1 : Int) < 0 by decide)]; exact Ev.now _
  simp only [if_neg hbig, Option.bind_some]
  have hl : l.length ≤ 1048576 := by omega
  have hw : w.length ≤ 35184372088832 := by omega
  have hto := laws_toMatrixS_ev l (by omega)
  have htw := laws_toInt64S_ev w hw
  have hml : (l.map convM).length ≤ 4611686018427387904 := by simp; omega
  refine Ev.bind hto (Ev.bind htw (Ev.bind (spec_WordMatrix_ev (l.map convM) w hml hw) (Ev.bind hto (Ev.bind htw (Ev.bind (impl_WordMatrix_ev (l.map convM) w hml hw) (Ev.bind (laws_eqMatrix_ev _ _ _ _) ?_))))))
  simp only [if_true, bne_self_eq_false]
  refine Ev.step (f := fun k => (laws_toMatrixS.f k l).bind fun a => (laws_eqMatrixS.f k (l.map convM) a).bind fun t => if t = true then ((laws_toInt64S.f k w).bind fun b => (laws_eqInt64S.f k w b).bind fun t2 => if t2 = true then some true else some false) else some false) (fun k => by simp only [laws_FnExactWordMatrix.j0]; rw [if_neg (by decide)]) ?_
  refine Ev.bind hto (Ev.bind (laws_eqMatrixS_ev _ hml) ?_)
  simp only [if_true]
  refine Ev.bind htw (Ev.bind (laws_eqInt64S_ev w hw) ?_)
  simp only [if_true]
  exact Ev.now _

end Go.Proofs.Ytbelfnmmmllolaa.Pure
