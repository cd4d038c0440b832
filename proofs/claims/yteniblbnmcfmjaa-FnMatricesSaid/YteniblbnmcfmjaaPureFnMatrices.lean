/- For every input of at most 4096 bytes the matrices drawn from it obey: products, reduced, inverse and powered matrices are those of the reference, products are associative, inverses lead to the unit and powers add up, as far as they fit; no condition beyond the row's. -/
import Derived.Test.YteniblbnmcfmjaaQMx41
import Derived.Test.YteniblbnmcfmjaaWSized
namespace Go.Proofs.Yteniblbnmcfmjaa.PrintWords
open Go.ChangeShapes Go.WideShapes
/-- The name by which the printed row calls the word. -/
theorem sized_ints {H : Type} {enc : TypeId × Value → H} {P : Program} {W : World} {base : Nat} {spare : Nat → Bool} {held : Bool} {t e : TypeId} {k : IntKind} {a : Option Addr} {len cap : Nat} {d : DataW H} {ps : List MemPlace} {ts : List TypeId} {ds : List (DataW H)} {j : Nat}
    (hsz : (DataW.weightsEach P ts ds).all (· ≤ reachBytes) = true) (ht : ts[j]? = some t) (hd : ds[j]? = some d) (hu : P.underlying t = some (.slice e)) (he : P.underlying e = some (.int k)) (hc : P.cellsOf e = 1) {B : Nat} (hB : P.bytesOf e = B)
    (h : DataW.Trod enc P W base spare held t (.slice a len cap) d ps) : len * B ≤ 140737488351232 :=
  Go.Proofs.YteniblbnmcfmjaaW.PrintWords.sized_ints hsz ht hd hu he hc hB h
end Go.Proofs.Yteniblbnmcfmjaa.PrintWords
namespace Go.Proofs.Yteniblbnmcfmjaa.Pure
open Go.RowKit Go.Proofs.Yteniblbnmcfmjaa.QM Go.Proofs.YteniblbnmcfmjaaW.PrintWords Go.Proofs.YteniblbnmcfmjaaW.PrintLast
set_option linter.unusedVariables false
set_option linter.unusedSimpArgs false
set_option linter.unusedSectionVars false

theorem wid {n : Int} (h0 : -9223372036854775808 ≤ n) (h1 : n ≤ 9223372036854775807) : wrap64 n = n := by unfold wrap64; omega
theorem Ev.bindv {α β : Type} {o : Option α} {f : Nat → α → Option β} {a : α} {r : β} (h : o = some a) (k : Ev (fun n => f n a) r) : Ev (fun n => o.bind (f n)) r := by
  subst h; exact k

theorem rd_nat (l : List Int) (j : Nat) (h : j < l.length) : rd l (j : Int) = l[j] := by
  unfold rd; rw [Int.toNat_natCast, List.getD_eq_getElem?_getD, List.getElem?_eq_getElem h]; rfl
theorem all_ev {β : Type} (g : Nat → Int → Option β) (n : Nat) (p : Nat → Bool) (yes no : β)
    (hstep : ∀ (i : Nat), i < n → p i = true → Ev (fun k => g k ((i : Int) + 1)) yes → Ev (fun k => g k i) yes)
    (hstepno : ∀ (i : Nat), i < n → p i = true → Ev (fun k => g k ((i : Int) + 1)) no → Ev (fun k => g k i) no)
    (hno : ∀ (i : Nat), i < n → p i = false → Ev (fun k => g k i) no)
    (hend : Ev (fun k => g k n) yes) : Ev (fun k => g k 0) (if (List.range n).all p then yes else no) := by
  have key : ∀ (d i : Nat), i + d = n → Ev (fun k => g k i) (if (List.range' i d).all p then yes else no) := by
    intro d
    induction d with
    | zero => intro i hi; have : i = n := by omega
              subst this; simpa using hend
    | succ d ih =>
      intro i hi
      have h := ih (i + 1) (by omega)
      rw [List.range'_succ, List.all_cons]
      cases e : p i with
      | false => simpa using hno i (by omega) e
      | true =>
        rw [Bool.true_and]
        have e1 : (((i + 1 : Nat) : Int)) = (i : Int) + 1 := by omega
        rw [e1] at h
        cases e2 : (List.range' (i + 1) d).all p with
        | true => rw [e2] at h; exact hstep i (by omega) e h
        | false => rw [e2] at h; exact hstepno i (by omega) e h
  have := key n 0 (by omega)
  rw [← List.range_eq_range'] at this
  exact this
theorem all_range_rd (l : List Int) (q : Int → Bool) : (List.range l.length).all (fun i => q (rd l (i : Int))) = l.all q := by
  rw [Bool.eq_iff_iff]
  simp only [List.all_eq_true, List.mem_range]
  constructor
  · intro h x hx
    obtain ⟨i, hi, rfl⟩ := List.mem_iff_getElem.1 hx
    have := h i hi
    rwa [rd_nat l i hi] at this
  · intro h i hi
    rw [rd_nat l i hi]
    exact h _ (List.getElem_mem hi)
theorem all_range_getD {α : Type} (l : List α) (d : α) (q : α → Bool) : (List.range l.length).all (fun i => q (l.getD i d)) = l.all q := by
  rw [Bool.eq_iff_iff]
  simp only [List.all_eq_true, List.mem_range]
  constructor
  · intro h x hx
    obtain ⟨i, hi, rfl⟩ := List.mem_iff_getElem.1 hx
    have := h i hi
    rwa [List.getD_eq_getElem?_getD, List.getElem?_eq_getElem hi] at this
  · intro h i hi
    rw [List.getD_eq_getElem?_getD, List.getElem?_eq_getElem hi]
    exact h _ (List.getElem_mem hi)
theorem all_ev' {β : Type} (g : Nat → Int → Option β) (n : Nat) (p : Nat → Bool) (yes no : β)
    (hstep : ∀ (i : Nat) (r : β), i < n → p i = true → Ev (fun k => g k ((i : Int) + 1)) r → Ev (fun k => g k i) r)
    (hno : ∀ (i : Nat), i < n → p i = false → Ev (fun k => g k i) no)
    (hend : Ev (fun k => g k n) yes) : Ev (fun k => g k 0) (if (List.range n).all p then yes else no) :=
  all_ev g n p yes no (fun i hi hp h => hstep i yes hi hp h) (fun i hi hp h => hstep i no hi hp h) hno hend
theorem ite_tf (b : Bool) : (if b then true else false) = b := by cases b <;> rfl
theorem tmod_cast {a m : Int} (h : 0 ≤ a) : Int.tmod a m = a % m := Int.tmod_eq_emod_of_nonneg h
theorem Ev.up {α : Type} {g : Nat → Option α} {r : α} (h : Ev (fun k => g (k + 1)) r) : Ev g r := Ev.step (f := fun k => g (k + 1)) (fun _ => rfl) h

structure okS (c : List Int) (q : Int) : Prop where
  b : ∀ x ∈ c, 0 ≤ x ∧ x ≤ 255
  l : c.length ≤ 5000
  p : 0 ≤ q ∧ q ≤ c.length
theorem mask34 {n : Int} (h0 : 0 ≤ n) (h1 : n < 18446744073709551616) : Go.bits .and .u64 n 17179869183 = n % 17179869184 := by
  obtain ⟨m, rfl⟩ : ∃ m : Nat, n = (m : Int) := ⟨n.toNat, by omega⟩
  have h := Go.bits_and_u64_nat m 17179869183 (by omega) (by omega)
  have e : m &&& 17179869183 = m % 17179869184 := Nat.and_two_pow_sub_one_eq_mod m 34
  rw [e] at h
  rw [show ((17179869183 : Nat) : Int) = 17179869183 from rfl] at h
  rw [h]; omega
theorem next_ok {c : List Int} {q : Int} (S : okS c q) (h a : Int) : ∃ v q' h', spec_l01Next.f c q h a = some (v, q', h') ∧ okS c q' ∧ 0 ≤ v ∧ (1 ≤ a → v < a) := by
  have Sl := S.l
  have Sp := S.p
  unfold spec_l01Next.f
  by_cases h1 : a < 1
  · rw [if_pos h1]; exact ⟨0, q, h, rfl, S, by omega, by omega⟩
  rw [if_neg h1]
  obtain ⟨w, hw⟩ : ∃ w, w = IntKind.u64.wrap (IntKind.u64.wrap (h * 6364136223846793005) + 1442695040888963407) := ⟨_, rfl⟩
  have hw0 : 0 ≤ w ∧ w < 18446744073709551616 := by rw [hw, IntKind.wrap_u64]; omega
  rw [← hw, mask34 (by omega) (by omega), wid (n := w / 8388608 % 17179869184) (by omega) (by omega)]
  by_cases h2 : q < (c.length : Int)
  · have hb : 0 ≤ rd c q ∧ rd c q ≤ 255 := by
      obtain ⟨m, rfl⟩ : ∃ m : Nat, q = (m : Int) := ⟨q.toNat, by omega⟩
      rw [rd_nat c m (by omega)]; exact S.b _ (List.getElem_mem _)
    rw [if_pos h2, if_pos Sp.1, if_neg (show ¬ a = 0 by omega), wid (n := rd c q) (by omega) (by omega), wid (n := w / 8388608 % 17179869184 + rd c q) (by omega) (by omega), wid (n := q + 1) (by omega) (by omega), tmod_cast (by omega)]
    exact ⟨_, _, _, rfl, ⟨S.b, S.l, by omega⟩, Int.emod_nonneg _ (by omega), fun _ => Int.emod_lt_of_pos _ (by omega)⟩
  · rw [if_neg h2, if_neg (show ¬ a = 0 by omega), tmod_cast (by omega)]
    exact ⟨_, _, _, rfl, S, Int.emod_nonneg _ (by omega), fun _ => Int.emod_lt_of_pos _ (by omega)⟩
theorem pick_ok {c : List Int} {q : Int} (S : okS c q) (h : Int) (l : List Int) (hl : 1 ≤ l.length) : ∃ v q' h', spec_l01Pick.f c q h l = some (v, q', h') ∧ okS c q' := by
  obtain ⟨v, q', h', e, S', v0, v1⟩ := next_ok S h (l.length : Int)
  unfold spec_l01Pick.f
  rw [e]
  simp only [Option.bind_some, if_pos v0, if_pos (v1 (by omega))]
  exact ⟨_, _, _, rfl, S'⟩
theorem from_ok {c : List Int} (hb : ∀ x ∈ c, 0 ≤ x ∧ x ≤ 255) (hl : c.length ≤ 5000) : ∃ h, Ev (fun k => spec_l01From.f k c) (c, 0, h) := by
  have key : ∀ d i : Nat, i + d = c.length → ∀ h, ∃ h', Ev (fun k => spec_l01From.l0 k c i c 0 h) (c, 0, h') := by
    intro d
    induction d with
    | zero =>
      intro i hi h
      refine ⟨h, Ev.up ?_⟩
      simp only [spec_l01From.l0, if_neg (show ¬ (i : Int) < (c.length : Int) by omega)]; exact Ev.now _
    | succ d ih =>
      intro i hi h
      by_cases h4 : (i : Int) < 4096
      · obtain ⟨h', e⟩ := ih (i + 1) (by omega) (IntKind.u64.wrap (IntKind.u64.wrap (IntKind.u64.wrap (h * 1099511628211) + IntKind.u64.wrap (rd c i)) + 71))
        refine ⟨h', Ev.up ?_⟩
        simp only [spec_l01From.l0, if_pos (show (i : Int) < (c.length : Int) by omega), if_pos h4, if_pos (show (0 : Int) ≤ (i : Int) by omega)]
        rw [wid (n := (i : Int) + 1) (by omega) (by omega)]
        exact e
      · refine ⟨h, Ev.up ?_⟩
        simp only [spec_l01From.l0, if_pos (show (i : Int) < (c.length : Int) by omega), if_neg h4]; exact Ev.now _
  unfold spec_l01From.f
  exact key c.length 0 (by omega) _

def entB (x : Int) : Bool := decide (-1000 ≤ x ∧ x ≤ 1000)
def matB (a b c d : Int) : Bool := (entB a && (entB b && (entB c && entB d))) && !(a * d - b * c == 0)
theorem ent_lo {x : Int} (h : entB x = true) : -1000 ≤ x := by unfold entB at h; simp at h; omega
theorem ent_hi {x : Int} (h : entB x = true) : x ≤ 1000 := by unfold entB at h; simp at h; omega
theorem mul_bd {x y m n : Int} (hx : -m ≤ x) (hx2 : x ≤ m) (hy : -n ≤ y) (hy2 : y ≤ n) (hm : 0 ≤ m) (hn : 0 ≤ n) : -(m * n) ≤ x * y ∧ x * y ≤ m * n := by
  have h1 := Int.mul_nonneg (show 0 ≤ m - x by omega) (show 0 ≤ n - y by omega)
  have h2 := Int.mul_nonneg (show 0 ≤ m + x by omega) (show 0 ≤ n + y by omega)
  have h3 := Int.mul_nonneg (show 0 ≤ m - x by omega) (show 0 ≤ n + y by omega)
  have h4 := Int.mul_nonneg (show 0 ≤ m + x by omega) (show 0 ≤ n - y by omega)
  simp only [Int.sub_mul, Int.mul_sub, Int.add_mul, Int.mul_add] at h1 h2 h3 h4
  constructor <;> omega
theorem det_bd {a b c d m : Int} (hm : 0 ≤ m) (ha : -m ≤ a ∧ a ≤ m) (hb : -m ≤ b ∧ b ≤ m) (hc : -m ≤ c ∧ c ≤ m) (hd : -m ≤ d ∧ d ≤ m) : (-(m * m) ≤ a * d ∧ a * d ≤ m * m) ∧ (-(m * m) ≤ b * c ∧ b * c ≤ m * m) :=
  ⟨mul_bd ha.1 ha.2 hd.1 hd.2 hm hm, mul_bd hb.1 hb.2 hc.1 hc.2 hm hm⟩

theorem mx_abs (a : Int) (h : -9223372036854775807 ≤ a) (h2 : a ≤ 9223372036854775807) : mx a (wrap64 (-a)) = (a.natAbs : Int) := by
  rw [wid (by omega) (by omega)]; unfold mx; split <;> omega

theorem gcd_step (a b : Int) (h : b ≠ 0) : Int.gcd b (Int.tmod a b) = Int.gcd a b := by
  unfold Int.gcd
  rw [Int.natAbs_tmod, Nat.gcd_comm a.natAbs b.natAbs]
  conv => rhs; rw [Nat.gcd_rec]
  rw [Nat.gcd_comm]

def bd62 (x : Int) : Prop := -4611686018427387904 ≤ x ∧ x ≤ 4611686018427387904
def g4 (a b c d : Int) : Int := (Int.gcd (Int.gcd a b : Int) (Int.gcd c d : Int) : Int)
def sg (a b : Int) : Int := if a < 0 ∨ (a = 0 ∧ b < 0) then -1 else 1
def byM (a b c d : Int) : Int := g4 a b c d * sg a b
theorem sg_or (a b : Int) : sg a b = 1 ∨ sg a b = -1 := by unfold sg; split <;> simp
theorem g4_nonneg (a b c d : Int) : 0 ≤ g4 a b c d := by unfold g4; omega
theorem g4_dvd (a b c d : Int) : g4 a b c d ∣ a ∧ g4 a b c d ∣ b ∧ g4 a b c d ∣ c ∧ g4 a b c d ∣ d := by
  unfold g4
  have h1 := Int.gcd_dvd_left (Int.gcd a b : Int) (Int.gcd c d : Int)
  have h2 := Int.gcd_dvd_right (Int.gcd a b : Int) (Int.gcd c d : Int)
  exact ⟨Int.dvd_trans h1 (Int.gcd_dvd_left a b), Int.dvd_trans h1 (Int.gcd_dvd_right a b), Int.dvd_trans h2 (Int.gcd_dvd_left c d), Int.dvd_trans h2 (Int.gcd_dvd_right c d)⟩
theorem g4_ne {a b : Int} (c d : Int) (h : a ≠ 0 ∨ b ≠ 0) : g4 a b c d ≠ 0 := by
  intro e
  obtain ⟨h1, h2, _⟩ := g4_dvd a b c d
  rw [e] at h1 h2
  rcases h with h | h
  · exact h (Int.zero_dvd.1 h1)
  · exact h (Int.zero_dvd.1 h2)
theorem byM_ne {a b : Int} (c d : Int) (h : a ≠ 0 ∨ b ≠ 0) : byM a b c d ≠ 0 := by
  have := g4_ne c d h
  unfold byM
  rcases sg_or a b with e | e <;> rw [e] <;> omega
theorem byM_dvd (a b c d : Int) : byM a b c d ∣ a ∧ byM a b c d ∣ b ∧ byM a b c d ∣ c ∧ byM a b c d ∣ d := by
  have h := g4_dvd a b c d
  unfold byM
  rcases sg_or a b with e | e <;> rw [e]
  · simpa using h
  · simpa using h
theorem gcd_le {a b M : Int} (ha : -M ≤ a ∧ a ≤ M) (hb : -M ≤ b ∧ b ≤ M) : (Int.gcd a b : Int) ≤ M := by
  by_cases h : a = 0
  · subst h; rw [Int.gcd_zero_left]; omega
  · have : Int.gcd a b ≤ a.natAbs := Nat.gcd_le_left _ (by omega)
    omega
theorem tdiv_bd {x M : Int} (g : Int) (hx : -M ≤ x ∧ x ≤ M) : -M ≤ Int.tdiv x g ∧ Int.tdiv x g ≤ M := by
  have := Int.natAbs_tdiv_le_natAbs x g
  omega
theorem redDet {a b c d : Int} (h : a * d - b * c ≠ 0) : Int.tdiv a (byM a b c d) * Int.tdiv d (byM a b c d) - Int.tdiv b (byM a b c d) * Int.tdiv c (byM a b c d) ≠ 0 := by
  obtain ⟨h1, h2, h3, h4⟩ := byM_dvd a b c d
  generalize byM a b c d = m at *
  have e1 := Int.tdiv_mul_cancel h1
  have e2 := Int.tdiv_mul_cancel h2
  have e3 := Int.tdiv_mul_cancel h3
  have e4 := Int.tdiv_mul_cancel h4
  generalize Int.tdiv a m = a' at *
  generalize Int.tdiv b m = b' at *
  generalize Int.tdiv c m = c' at *
  generalize Int.tdiv d m = d' at *
  intro e
  apply h
  rw [← e1, ← e2, ← e3, ← e4]
  have : a' * m * (d' * m) - b' * m * (c' * m) = (a' * d' - b' * c') * (m * m) := by
    rw [Int.sub_mul]; simp only [Int.mul_assoc, Int.mul_comm, Int.mul_left_comm]
  rw [this, e, Int.zero_mul]
def rM (a b c d x : Int) : Int := Int.tdiv x (byM a b c d)
def fitM (a b c d : Int) : Bool := entB (rM a b c d a) && (entB (rM a b c d b) && (entB (rM a b c d c) && entB (rM a b c d d)))
theorem rowNe {a b c d : Int} (h : a * d - b * c ≠ 0) : a ≠ 0 ∨ b ≠ 0 := by
  by_cases ha : a = 0
  · right; intro hb; apply h; rw [ha, hb]; simp
  · left; exact ha

theorem gcd_mul (m a b : Int) : (Int.gcd (m * a) (m * b) : Int) = (m.natAbs : Int) * (Int.gcd a b : Int) := by
  rw [Int.gcd_mul_left]; simp
theorem g4_mul (m a b c d : Int) : g4 (m * a) (m * b) (m * c) (m * d) = (m.natAbs : Int) * g4 a b c d := by
  unfold g4
  rw [gcd_mul, gcd_mul, gcd_mul, Int.natAbs_natCast]
theorem sg_mul {m a b : Int} (hm : m ≠ 0) (h : a ≠ 0 ∨ b ≠ 0) : sg (m * a) (m * b) = (if m < 0 then -1 else 1) * sg a b := by
  have key : ∀ x : Int, (m * x < 0 ↔ if m < 0 then 0 < x else x < 0) := by
    intro x
    by_cases hn : m < 0
    · rw [if_pos hn]
      constructor
      · intro h1
        rcases Int.lt_trichotomy x 0 with h2 | h2 | h2
        · have := Int.mul_pos_of_neg_of_neg hn h2; omega
        · subst h2; simp at h1
        · exact h2
      · intro h1; exact Int.mul_neg_of_neg_of_pos hn h1
    · rw [if_neg hn]
      have hp : 0 < m := by omega
      constructor
      · intro h1
        rcases Int.lt_trichotomy x 0 with h2 | h2 | h2
        · exact h2
        · subst h2; simp at h1
        · have := Int.mul_pos hp h2; omega
      · intro h1; exact Int.mul_neg_of_pos_of_neg hp h1
  have z : m * a = 0 ↔ a = 0 := by
    rw [Int.mul_eq_zero]
    constructor
    · intro h
      rcases h with h | h
      · exact absurd h hm
      · exact h
    · intro h; exact .inr h
  have ka := key a
  have kb := key b
  unfold sg
  by_cases hn : m < 0
  · rw [if_pos hn] at ka kb
    rw [if_pos hn]
    by_cases h1 : a < 0
    · rw [if_neg (by rw [ka, kb, z]; omega), if_pos (.inl h1)]; rfl
    · by_cases h2 : a = 0
      · by_cases h3 : b < 0
        · rw [if_neg (by rw [ka, kb, z]; omega), if_pos (.inr ⟨h2, h3⟩)]; rfl
        · rw [if_pos (by rw [ka, kb, z]; omega), if_neg (by omega)]; rfl
      · rw [if_pos (by rw [ka, kb, z]; omega), if_neg (by omega)]; rfl
  · rw [if_neg hn] at ka kb
    rw [if_neg hn, Int.one_mul]
    by_cases h1 : a < 0 ∨ (a = 0 ∧ b < 0)
    · rw [if_pos h1, if_pos (by rw [ka, kb, z]; exact h1)]
    · rw [if_neg h1, if_neg (by rw [ka, kb, z]; exact h1)]
theorem byM_mul {m a b : Int} (c d : Int) (hm : m ≠ 0) (h : a ≠ 0 ∨ b ≠ 0) : byM (m * a) (m * b) (m * c) (m * d) = m * byM a b c d := by
  unfold byM
  rw [g4_mul, sg_mul hm h]
  by_cases hn : m < 0
  · rw [if_pos hn, show (m.natAbs : Int) = -m from by omega]
    simp only [Int.neg_mul, Int.mul_neg, Int.one_mul, Int.neg_neg, Int.mul_assoc]
  · rw [if_neg hn, show (m.natAbs : Int) = m from by omega, Int.one_mul, Int.mul_assoc]
theorem tdiv_mul_same {m x y : Int} (hm : m ≠ 0) (h : y ∣ x) : Int.tdiv (m * x) (m * y) = Int.tdiv x y := by
  obtain ⟨q, rfl⟩ := h
  by_cases hy : y = 0
  · subst hy; simp
  · rw [← Int.mul_assoc, Int.mul_tdiv_cancel_left _ (Int.mul_ne_zero hm hy), Int.mul_tdiv_cancel_left _ hy]
theorem rM_mul {m a b : Int} (c d : Int) (hm : m ≠ 0) (h : a ≠ 0 ∨ b ≠ 0) : rM (m * a) (m * b) (m * c) (m * d) (m * a) = rM a b c d a ∧ rM (m * a) (m * b) (m * c) (m * d) (m * b) = rM a b c d b ∧ rM (m * a) (m * b) (m * c) (m * d) (m * c) = rM a b c d c ∧ rM (m * a) (m * b) (m * c) (m * d) (m * d) = rM a b c d d := by
  obtain ⟨h1, h2, h3, h4⟩ := byM_dvd a b c d
  unfold rM
  rw [byM_mul c d hm h]
  exact ⟨tdiv_mul_same hm h1, tdiv_mul_same hm h2, tdiv_mul_same hm h3, tdiv_mul_same hm h4⟩

structure M4 where
  a : Int
  b : Int
  c : Int
  d : Int
def M4.det (g : M4) : Int := g.a * g.d - g.b * g.c
def M4.mul (g h : M4) : M4 := ⟨g.a * h.a + g.b * h.c, g.a * h.b + g.b * h.d, g.c * h.a + g.d * h.c, g.c * h.b + g.d * h.d⟩
def M4.by_ (g : M4) : Int := byM g.a g.b g.c g.d
def M4.red (g : M4) : M4 := ⟨Int.tdiv g.a g.by_, Int.tdiv g.b g.by_, Int.tdiv g.c g.by_, Int.tdiv g.d g.by_⟩
def M4.smul (m : Int) (g : M4) : M4 := ⟨m * g.a, m * g.b, m * g.c, m * g.d⟩
def M4.fit (g : M4) : Bool := entB g.a && (entB g.b && (entB g.c && entB g.d))
def M4.ok (g : M4) : Bool := matB g.a g.b g.c g.d
def M4.one : M4 := ⟨1, 0, 0, 1⟩
def M4.adj (g : M4) : M4 := ⟨g.d, -g.b, -g.c, g.a⟩
theorem M4.ext' {g h : M4} (h1 : g.a = h.a) (h2 : g.b = h.b) (h3 : g.c = h.c) (h4 : g.d = h.d) : g = h := by cases g; cases h; simp_all
theorem M4.det_mul (g h : M4) : (g.mul h).det = g.det * h.det := by
  unfold M4.det M4.mul
  simp only [Int.sub_mul, Int.mul_sub, Int.add_mul, Int.mul_add, Int.mul_assoc, Int.mul_comm, Int.mul_left_comm]
  omega
theorem M4.mul_smul (m : Int) (g h : M4) : g.mul (h.smul m) = (g.mul h).smul m := by
  apply M4.ext' <;> simp only [M4.mul, M4.smul, Int.mul_add, Int.mul_left_comm]
theorem M4.adj_smul (m : Int) (g : M4) : (g.smul m).adj = g.adj.smul m := by
  apply M4.ext' <;> simp only [M4.adj, M4.smul, Int.mul_neg]
theorem M4.adj_det (g : M4) : g.adj.det = g.det := by unfold M4.adj M4.det; simp only [Int.neg_mul_neg, Int.mul_comm]
theorem M4.row_ne {g : M4} (h : g.det ≠ 0) : g.a ≠ 0 ∨ g.b ≠ 0 := rowNe h
theorem M4.by_ne {g : M4} (h : g.det ≠ 0) : g.by_ ≠ 0 := byM_ne _ _ (M4.row_ne h)
theorem M4.red_det {g : M4} (h : g.det ≠ 0) : g.red.det ≠ 0 := redDet h
theorem M4.smul_red (g : M4) : g.red.smul g.by_ = g := by
  obtain ⟨h1, h2, h3, h4⟩ := byM_dvd g.a g.b g.c g.d
  apply M4.ext'
  · exact Int.mul_tdiv_cancel' h1
  · exact Int.mul_tdiv_cancel' h2
  · exact Int.mul_tdiv_cancel' h3
  · exact Int.mul_tdiv_cancel' h4
theorem M4.red_smul {m : Int} {g : M4} (hm : m ≠ 0) (h : g.det ≠ 0) : (g.smul m).red = g.red := by
  obtain ⟨h1, h2, h3, h4⟩ := rM_mul (m := m) g.c g.d hm (M4.row_ne h)
  exact M4.ext' h1 h2 h3 h4
theorem M4.red_mul_red {g h : M4} (hg : g.det ≠ 0) (hh : h.det ≠ 0) : (g.mul h.red).red = (g.mul h).red := by
  conv => rhs; rw [← M4.smul_red h, M4.mul_smul]
  rw [M4.red_smul (M4.by_ne hh)]
  rw [M4.det_mul]; exact Int.mul_ne_zero hg (M4.red_det hh)
theorem M4.red_adj_red {g : M4} (hg : g.det ≠ 0) : g.red.adj.red = g.adj.red := by
  conv => rhs; rw [← M4.smul_red g, M4.adj_smul]
  rw [M4.red_smul (M4.by_ne hg)]
  rw [M4.adj_det]; exact M4.red_det hg
theorem M4.ok_det {g : M4} (h : g.ok = true) : g.det ≠ 0 := by
  unfold M4.ok matB at h; rw [Bool.and_eq_true] at h
  have := h.2
  unfold M4.det
  intro e; rw [e] at this; simp at this
theorem M4.ok_fit {g : M4} (h : g.ok = true) : g.fit = true := by
  unfold M4.ok matB at h; rw [Bool.and_eq_true] at h; exact h.1
theorem M4.ok_of {g : M4} (h : g.det ≠ 0) : g.ok = g.fit := by
  unfold M4.ok matB M4.fit
  rw [show (g.a * g.d - g.b * g.c == 0) = false from beq_eq_false_iff_ne.2 h]; simp
theorem M4.fit_bd {g : M4} (h : g.fit = true) : (-1000 ≤ g.a ∧ g.a ≤ 1000) ∧ (-1000 ≤ g.b ∧ g.b ≤ 1000) ∧ (-1000 ≤ g.c ∧ g.c ≤ 1000) ∧ (-1000 ≤ g.d ∧ g.d ≤ 1000) := by
  unfold M4.fit at h; simp only [Bool.and_eq_true] at h
  exact ⟨⟨ent_lo h.1, ent_hi h.1⟩, ⟨ent_lo h.2.1, ent_hi h.2.1⟩, ⟨ent_lo h.2.2.1, ent_hi h.2.2.1⟩, ⟨ent_lo h.2.2.2, ent_hi h.2.2.2⟩⟩
theorem ent_of {x : Int} (h : -1000 ≤ x ∧ x ≤ 1000) : entB x = true := decide_eq_true h
theorem M4.red_fit {g : M4} (h : g.fit = true) : g.red.fit = true := by
  obtain ⟨h1, h2, h3, h4⟩ := M4.fit_bd h
  unfold M4.fit M4.red
  simp only [ent_of (tdiv_bd _ h1), ent_of (tdiv_bd _ h2), ent_of (tdiv_bd _ h3), ent_of (tdiv_bd _ h4), Bool.and_self]
theorem M4.red_ok {g : M4} (h : g.ok = true) : g.red.ok = true := by
  rw [M4.ok_of (M4.red_det (M4.ok_det h))]; exact M4.red_fit (M4.ok_fit h)
theorem M4.one_mul (g : M4) : M4.one.mul g = g := by apply M4.ext' <;> simp [M4.mul, M4.one]
def mulW (x y u v : Int) : Int := wrap64 (wrap64 (x * u) + wrap64 (y * v))
theorem mulW_eq {x y u v M : Int} (hM : 0 ≤ M) (hM2 : M ≤ 1000000000) (hx : -M ≤ x ∧ x ≤ M) (hy : -M ≤ y ∧ y ≤ M) (hu : -M ≤ u ∧ u ≤ M) (hv : -M ≤ v ∧ v ≤ M) : mulW x y u v = x * u + y * v := by
  have hmm : M * M ≤ 1000000000000000000 := by have := Int.mul_le_mul hM2 hM2 hM (by omega); omega
  obtain ⟨a1, a2⟩ := mul_bd hx.1 hx.2 hu.1 hu.2 hM hM
  obtain ⟨b1, b2⟩ := mul_bd hy.1 hy.2 hv.1 hv.2 hM hM
  unfold mulW
  rw [wid (n := x * u) (by omega) (by omega), wid (n := y * v) (by omega) (by omega), wid (by omega) (by omega)]

theorem In_eq (a b c : Int) : spec_l01In.f a b c = some (decide (b ≤ a ∧ a ≤ c)) := by
  unfold spec_l01In.f
  by_cases h : a ≥ b
  · rw [if_pos h]; congr 1; exact decide_eq_decide.2 ⟨fun h2 => ⟨h, h2⟩, fun h2 => h2.2⟩
  · rw [if_neg h]; congr 1; exact (decide_eq_false (fun h2 => h h2.1)).symm

theorem spec_l04Det_eq {a b c d m : Int} (hm : 0 ≤ m) (hm2 : m ≤ 2000000000) (ha : -m ≤ a ∧ a ≤ m) (hb : -m ≤ b ∧ b ≤ m) (hc : -m ≤ c ∧ c ≤ m) (hd : -m ≤ d ∧ d ≤ m) : spec_l04Det.f a b c d = some (a * d - b * c) := by
  have hmm : m * m ≤ 4000000000000000000 := by have := Int.mul_le_mul hm2 hm2 hm (by omega); omega
  obtain ⟨h1, h2⟩ := det_bd hm ha hb hc hd
  unfold spec_l04Det.f
  rw [wid (n := a * d) (by omega) (by omega), wid (n := b * c) (by omega) (by omega), wid (by omega) (by omega)]
theorem spec_l04Is_ev (a b c d : Int) : Ev (fun k => spec_l04Is.f k a b c d) (matB a b c d) := by
  have w0 : wrap64 1 = 1 := wid (by omega) (by omega)
  have w1 : wrap64 2 = 2 := wid (by omega) (by omega)
  have hI : ∀ x : Int, spec_l01In.f x (-1000) 1000 = some (entB x) := fun x => In_eq x _ _
  unfold spec_l04Is.f matB
  refine Ev.step (f := fun k => spec_l04Is.l1 k 0 0 a b c d) (fun k => by simp only [spec_l04Is.l0]; rw [if_pos (by decide)]) ?_
  have no : Ev (fun _ : Nat => (some false : Option Bool)) false := Ev.now _
  cases ha : entB a with
  | false => exact Ev.step (f := fun _ => some false) (fun k => by simp [spec_l04Is.l1, hI, ha]) no
  | true =>
  refine Ev.step (f := fun k => spec_l04Is.l1 k 0 1 a b c d) (fun k => by simp [spec_l04Is.l1, hI, ha, w0]) ?_
  cases hb : entB b with
  | false => exact Ev.step (f := fun _ => some false) (fun k => by simp [spec_l04Is.l1, hI, hb]) no
  | true =>
  refine Ev.step (f := fun k => spec_l04Is.l1 k 0 2 a b c d) (fun k => by simp [spec_l04Is.l1, hI, hb, w1]) ?_
  refine Ev.step (f := fun k => spec_l04Is.l0 k 1 a b c d) (fun k => by simp [spec_l04Is.l1, w0]) ?_
  refine Ev.step (f := fun k => spec_l04Is.l1 k 1 0 a b c d) (fun k => by simp only [spec_l04Is.l0]; rw [if_pos (by decide)]) ?_
  cases hc : entB c with
  | false => exact Ev.step (f := fun _ => some false) (fun k => by simp [spec_l04Is.l1, hI, hc]) no
  | true =>
  refine Ev.step (f := fun k => spec_l04Is.l1 k 1 1 a b c d) (fun k => by simp [spec_l04Is.l1, hI, hc, w0]) ?_
  cases hd : entB d with
  | false => exact Ev.step (f := fun _ => some false) (fun k => by simp [spec_l04Is.l1, hI, hd]) no
  | true =>
  refine Ev.step (f := fun k => spec_l04Is.l1 k 1 2 a b c d) (fun k => by simp [spec_l04Is.l1, hI, hd, w1]) ?_
  refine Ev.step (f := fun k => spec_l04Is.l0 k 2 a b c d) (fun k => by simp [spec_l04Is.l1, w1]) ?_
  refine Ev.step (f := fun _ => (spec_l04Det.f a b c d).bind fun t => some (t != 0)) (fun k => by simp only [spec_l04Is.l0]; rw [if_neg (by decide)]) ?_
  refine Ev.bindv (spec_l04Det_eq (m := 1000) (by omega) (by omega) ⟨ent_lo ha, ent_hi ha⟩ ⟨ent_lo hb, ent_hi hb⟩ ⟨ent_lo hc, ent_hi hc⟩ ⟨ent_lo hd, ent_hi hd⟩) ?_
  simp only [Bool.true_and]
  exact Ev.now _

theorem spec_l01Gcd_l (n : Nat) : ∀ (a b : Int), b.natAbs < n → -9223372036854775807 ≤ a → a ≤ 9223372036854775807 → -9223372036854775807 ≤ b → b ≤ 9223372036854775807 → Ev (fun k => spec_l01Gcd.l0 k a b) (Int.gcd a b : Int) := by
  induction n with
  | zero => intro a b h; omega
  | succ n ih =>
    intro a b hn ha1 ha2 hb1 hb2
    by_cases hb : b = 0
    · subst hb
      refine Ev.step (f := fun _ => some (mx a (wrap64 (-a)))) (fun k => by simp only [spec_l01Gcd.l0, if_true]) ?_
      rw [mx_abs a ha1 ha2, Int.gcd_zero_right]; exact Ev.now _
    · have hlt : (Int.tmod a b).natAbs < b.natAbs := by rw [Int.natAbs_tmod]; exact Nat.mod_lt _ (by omega)
      refine Ev.step (f := fun k => spec_l01Gcd.l0 k b (Int.tmod a b)) (fun k => by simp only [spec_l01Gcd.l0]; rw [if_neg hb]) ?_
      rw [← gcd_step a b hb]
      exact ih _ _ (by omega) hb1 hb2 (by omega) (by omega)
theorem spec_l01Gcd_ev (a b : Int) (ha1 : -9223372036854775807 ≤ a) (ha2 : a ≤ 9223372036854775807) (hb1 : -9223372036854775807 ≤ b) (hb2 : b ≤ 9223372036854775807) : Ev (fun k => spec_l01Gcd.f k a b) (Int.gcd a b : Int) := by
  unfold spec_l01Gcd.f
  exact spec_l01Gcd_l (b.natAbs + 1) a b (by omega) ha1 ha2 hb1 hb2

theorem rd_set_self (l : List Int) (i : Nat) (v : Int) (h : i < l.length) : rd (l.set i v) (i : Int) = v := by
  rw [rd_nat _ i (by rw [List.length_set]; exact h), List.getElem_set_self]
theorem spec_l04Reduce_l1s (l : List Int) (g s : Int) (f : Bool) (i : Nat) (hi : i < 4) (hl : l.length = 4) (hg : g ≠ 0) (v : Int) (hv : wrap64 ((wrap64 (Int.tdiv (rd l i) g)) * s) = v) (k : Nat) :
    spec_l04Reduce.l1 (k + 1) l g s f i = spec_l04Reduce.l1 k (l.set i v) g s (f && entB v) ((i : Int) + 1) := by
  have hI : ∀ x : Int, spec_l01In.f x (-1000) 1000 = some (entB x) := fun x => In_eq x _ _
  simp only [spec_l04Reduce.l1]
  rw [if_pos (by omega), if_pos (by omega), if_pos (by omega), if_neg hg, hv]
  simp only [Option.bind_some, Int.toNat_natCast]
  rw [rd_set_self l i v (by omega), hI, wid (n := (i : Int) + 1) (by omega) (by omega)]
  cases f
  · simp
  · simp
def s1 (x : Int) : Int := if x = 0 then 0 else if x < 0 then -1 else 1
theorem tdiv_abs {x : Int} (h : x ≠ 0) : Int.tdiv x (x.natAbs : Int) = s1 x := by
  unfold s1
  rw [if_neg h]
  by_cases hx : x < 0
  · rw [if_pos hx, show (x.natAbs : Int) = -x from by omega, Int.tdiv_neg, Int.tdiv_self h]
  · rw [if_neg hx, show (x.natAbs : Int) = x from by omega, Int.tdiv_self h]
theorem spec_l04Reduce_l0s (l : List Int) (g s : Int) (i : Nat) (hi : i < 4) (hl : l.length = 4) (hg : 0 ≤ g ∧ g ≤ 4611686018427387904) (hx : bd62 (rd l i)) {r : Int × Int × Int × Int × Bool}
    (h : Ev (fun k => spec_l04Reduce.l0 k l (Int.gcd g (rd l i) : Int) (if s = 0 then s1 (rd l i) else s) ((i : Int) + 1)) r) : Ev (fun k => spec_l04Reduce.l0 k l g s i) r := by
  unfold bd62 at hx
  have hm := mx_abs (rd l i) (by omega) (by omega)
  refine Ev.step (f := fun k => (spec_l01Gcd.f k g ((rd l i).natAbs : Int)).bind fun t => if s = 0 then (if rd l i = 0 then spec_l04Reduce.l0 k l t s ((i : Int) + 1) else if ((rd l i).natAbs : Int) = 0 then none else spec_l04Reduce.l0 k l t (wrap64 (Int.tdiv (rd l i) ((rd l i).natAbs : Int))) ((i : Int) + 1)) else spec_l04Reduce.l0 k l t s ((i : Int) + 1)) (fun k => ?_) ?_
  · simp only [spec_l04Reduce.l0]
    rw [if_pos (by omega), if_pos (by omega), if_pos (by omega), hm, wid (n := (i : Int) + 1) (by omega) (by omega)]
  · refine Ev.bind (spec_l01Gcd_ev _ _ (by omega) (by omega) (by omega) (by omega)) ?_
    rw [show (Int.gcd g ((rd l i).natAbs : Int) : Int) = (Int.gcd g (rd l i) : Int) from by unfold Int.gcd; rw [Int.natAbs_natCast]]
    by_cases hs : s = 0
    · rw [if_pos hs] at h
      simp only [if_pos hs]
      by_cases h0 : rd l i = 0
      · simp only [if_pos h0]
        rw [show s1 (rd l i) = s from by unfold s1; rw [if_pos h0, hs]] at h
        exact h
      · simp only [if_neg h0, if_neg (show ¬ ((rd l i).natAbs : Int) = 0 by omega)]
        rw [tdiv_abs h0, wid (n := s1 (rd l i)) (by unfold s1; split <;> (try split) <;> omega) (by unfold s1; split <;> (try split) <;> omega)]
        exact h
    · rw [if_neg hs] at h
      simp only [if_neg hs]
      exact h
theorem spec_l04Reduce_ev {a b c d : Int} (ha : bd62 a) (hb : bd62 b) (hc : bd62 c) (hd : bd62 d) (hne : a ≠ 0 ∨ b ≠ 0) :
    Ev (fun k => spec_l04Reduce.f k a b c d) (rM a b c d a, rM a b c d b, rM a b c d c, rM a b c d d, fitM a b c d) := by
  have k1 := gcd_le ha hb
  have k2 := gcd_le hc hd
  have k3 : g4 a b c d ≤ 4611686018427387904 := gcd_le (a := Int.gcd a b) (b := Int.gcd c d) (by omega) (by omega)
  have k0 := g4_nonneg a b c d
  have hg := g4_ne c d hne
  have hsg := sg_or a b
  have q1 : (Int.gcd (a.natAbs : Int) b : Int) = (Int.gcd a b : Int) := by unfold Int.gcd; rw [Int.natAbs_natCast]
  have q3 := gcd_le (a := (Int.gcd a b : Int)) (b := c) (M := 4611686018427387904) (by omega) hc
  have q4 : (Int.gcd (Int.gcd (Int.gcd a b : Int) c : Int) d : Int) = g4 a b c d := by unfold g4; rw [Int.gcd_assoc]
  have fin : Ev (fun k => spec_l04Reduce.l0 k [a, b, c, d] (g4 a b c d) (sg a b) 4) (rM a b c d a, rM a b c d b, rM a b c d c, rM a b c d d, fitM a b c d) := by
    have vx : ∀ x, bd62 x → wrap64 ((wrap64 (Int.tdiv x (g4 a b c d))) * sg a b) = rM a b c d x := by
      intro x hx
      have := tdiv_bd (g4 a b c d) hx
      unfold rM byM
      rw [wid (n := Int.tdiv x (g4 a b c d)) (by omega) (by omega)]
      rcases hsg with e | e <;> rw [e]
      · rw [Int.mul_one, Int.mul_one, wid (by omega) (by omega)]
      · rw [Int.mul_neg_one, Int.mul_neg_one, Int.tdiv_neg, wid (by omega) (by omega)]
    refine Ev.step (f := fun k => spec_l04Reduce.l1 k [a, b, c, d] (g4 a b c d) (sg a b) true (0 : Nat)) (fun k => ?_) ?_
    · simp only [spec_l04Reduce.l0]
      rw [if_neg (by decide), mx_abs _ (by omega) (by omega), show ((g4 a b c d).natAbs : Int) = g4 a b c d from by omega]; rfl
    refine Ev.step (fun k => spec_l04Reduce_l1s [a, b, c, d] _ _ true 0 (by decide) rfl hg _ (vx a ha) k) ?_
    refine Ev.step (fun k => spec_l04Reduce_l1s [rM a b c d a, b, c, d] _ _ _ 1 (by decide) rfl hg _ (vx b hb) k) ?_
    refine Ev.step (fun k => spec_l04Reduce_l1s [rM a b c d a, rM a b c d b, c, d] _ _ _ 2 (by decide) rfl hg _ (vx c hc) k) ?_
    refine Ev.step (fun k => spec_l04Reduce_l1s [rM a b c d a, rM a b c d b, rM a b c d c, d] _ _ _ 3 (by decide) rfl hg _ (vx d hd) k) ?_
    refine Ev.step (f := fun _ => some (rM a b c d a, rM a b c d b, rM a b c d c, rM a b c d d, fitM a b c d)) (fun k => ?_) (Ev.now _)
    simp only [spec_l04Reduce.l1]
    rw [if_neg (by decide), if_pos (by simp), if_pos (by simp), if_pos (by simp), if_pos (by simp)]
    unfold fitM
    simp only [Bool.true_and, Bool.and_assoc]
    rfl
  unfold spec_l04Reduce.f
  unfold bd62 at ha hb hc hd
  refine spec_l04Reduce_l0s [a, b, c, d] 0 0 0 (by decide) rfl (by omega) ha ?_
  show Ev (fun k => spec_l04Reduce.l0 k [a, b, c, d] (Int.gcd 0 a : Int) (if (0 : Int) = 0 then s1 a else 0) ((1 : Nat) : Int)) _
  rw [Int.gcd_zero_left, if_pos rfl]
  refine spec_l04Reduce_l0s [a, b, c, d] _ _ 1 (by decide) rfl (by omega) hb ?_
  show Ev (fun k => spec_l04Reduce.l0 k [a, b, c, d] (Int.gcd (a.natAbs : Int) b : Int) (if s1 a = 0 then s1 b else s1 a) ((2 : Nat) : Int)) _
  rw [q1, show (if s1 a = 0 then s1 b else s1 a) = sg a b from by unfold s1 sg; split <;> split <;> (try split) <;> (try split) <;> omega]
  refine spec_l04Reduce_l0s [a, b, c, d] _ _ 2 (by decide) rfl (by omega) hc ?_
  show Ev (fun k => spec_l04Reduce.l0 k [a, b, c, d] (Int.gcd (Int.gcd a b : Int) c : Int) (if sg a b = 0 then s1 c else sg a b) ((3 : Nat) : Int)) _
  rw [if_neg (by omega)]
  refine spec_l04Reduce_l0s [a, b, c, d] _ _ 3 (by decide) rfl (by omega) hd ?_
  show Ev (fun k => spec_l04Reduce.l0 k [a, b, c, d] (Int.gcd (Int.gcd (Int.gcd a b : Int) c : Int) d : Int) (if sg a b = 0 then s1 d else sg a b) ((4 : Nat) : Int)) _
  rw [if_neg (by omega), q4]
  exact fin

def Dr (c : List Int) (g : Nat → Option (Int × Int × Int × Int × Int × Int)) : Prop := ∃ a b e d q h, Ev g (a, b, e, d, q, h) ∧ okS c q
theorem Dr.of {c : List Int} {f g : Nat → Option (Int × Int × Int × Int × Int × Int)} (h : Dr c f) (up : ∀ r, Ev f r → Ev g r) : Dr c g := by
  obtain ⟨a, b, e, d, q, h', h1, h2⟩ := h
  exact ⟨a, b, e, d, q, h', up _ h1, h2⟩
theorem dj3 {C : List Int} {q : Int} (S : okS C q) (h a b c d : Int) : Dr C (fun k => spec_l04Draw.j3 k C q h a b c d) := by
  obtain ⟨v, q', h', e, S', _⟩ := next_ok S h 40
  by_cases c0 : v = 0
  · refine ⟨1001, b, c, d, q', h', Ev.up ?_, S'⟩
    simp only [spec_l04Draw.j3]
    refine Ev.bindv e ?_
    simp only [if_pos c0]
    exact Ev.now _
  by_cases c1 : v = 1
  · refine ⟨a, b, a, b, q', h', Ev.up ?_, S'⟩
    simp only [spec_l04Draw.j3]
    refine Ev.bindv e ?_
    simp only [if_neg c0, if_pos c1]
    exact Ev.now _
  · refine ⟨a, b, c, d, q', h', Ev.up ?_, S'⟩
    simp only [spec_l04Draw.j3]
    refine Ev.bindv e ?_
    simp only [if_neg c0, if_neg c1]
    exact Ev.now _
theorem dj2 {C : List Int} {q : Int} (S : okS C q) (h a b c d : Int) : Dr C (fun k => spec_l04Draw.j2 k C q h a b c d) := by
  obtain ⟨v, q1, h1, e1, S1, _⟩ := next_ok S h 9
  by_cases c0 : v = 0
  · obtain ⟨v2, q2, h2, e2, S2⟩ := pick_ok S1 h1 [2, 3, 4, 5, 9] (by simp)
    obtain ⟨v3, q3, h3, e3, S3, _⟩ := next_ok S2 h2 5
    refine (dj3 S3 h3 v2 (wrap64 (v3 - 2)) 0 1).of fun r hr => Ev.up ?_
    simp only [spec_l04Draw.j2]
    refine Ev.bindv e1 ?_
    simp only [if_pos c0]
    exact Ev.bindv e2 (Ev.bindv e3 hr)
  by_cases c1 : v = 1
  · obtain ⟨v2, q2, h2, e2, S2⟩ := pick_ok S1 h1 [2, 3, 4, 7, 1] (by simp)
    refine (dj3 S2 h2 1 0 0 v2).of fun r hr => Ev.up ?_
    simp only [spec_l04Draw.j2]
    refine Ev.bindv e1 ?_
    simp only [if_neg c0, if_pos c1]
    exact Ev.bindv e2 hr
  by_cases c2 : v = 2
  · obtain ⟨v2, q2, h2, e2, S2⟩ := pick_ok S1 h1 [1, -1, 2, 3] (by simp)
    refine (dj3 S2 h2 0 v2 1 0).of fun r hr => Ev.up ?_
    simp only [spec_l04Draw.j2]
    refine Ev.bindv e1 ?_
    simp only [if_neg c0, if_neg c1, if_pos c2]
    exact Ev.bindv e2 hr
  by_cases c3 : v = 3
  · obtain ⟨v2, q2, h2, e2, S2, _⟩ := next_ok S1 h1 2001
    obtain ⟨v3, q3, h3, e3, S3, _⟩ := next_ok S2 h2 9
    obtain ⟨v4, q4, h4, e4, S4, _⟩ := next_ok S3 h3 9
    obtain ⟨v5, q5, h5, e5, S5, _⟩ := next_ok S4 h4 2001
    refine (dj3 S5 h5 (wrap64 (v2 - 1000)) v3 v4 (wrap64 (v5 - 1000))).of fun r hr => Ev.up ?_
    simp only [spec_l04Draw.j2]
    refine Ev.bindv e1 ?_
    simp only [if_neg c0, if_neg c1, if_neg c2, if_pos c3]
    exact Ev.bindv e2 (Ev.bindv e3 (Ev.bindv e4 (Ev.bindv e5 hr)))
  by_cases c4 : v = 4
  · obtain ⟨v2, q2, h2, e2, S2, _⟩ := next_ok S1 h1 7
    refine (dj3 S2 h2 1 (wrap64 (v2 - 3)) 0 1).of fun r hr => Ev.up ?_
    simp only [spec_l04Draw.j2]
    refine Ev.bindv e1 ?_
    simp only [if_neg c0, if_neg c1, if_neg c2, if_neg c3, if_pos c4]
    exact Ev.bindv e2 hr
  · refine (dj3 S1 h1 a b c d).of fun r hr => Ev.up ?_
    simp only [spec_l04Draw.j2]
    refine Ev.bindv e1 ?_
    simp only [if_neg c0, if_neg c1, if_neg c2, if_neg c3, if_neg c4]
    exact hr
theorem wr0 : wrap64 (0 + 1) = 1 := by unfold wrap64; omega
theorem wr1 : wrap64 (1 + 1) = 2 := by unfold wrap64; omega
theorem wr2 : wrap64 (2 + 1) = 3 := by unfold wrap64; omega
theorem wr3 : wrap64 (3 + 1) = 4 := by unfold wrap64; omega
theorem dl0 {C : List Int} (n : Nat) : ∀ (i : Int), 0 ≤ i → i + n = 5 → ∀ (q h a b c d : Int), okS C q → Dr C (fun k => spec_l04Draw.l0 k i C q h a b c d) := by
  induction n with
  | zero =>
    intro i h0 hi q h a b c d S
    refine (dj2 S h a b c d).of fun r hr => Ev.up ?_
    simp only [spec_l04Draw.l0, if_neg (show ¬ i < 5 by omega)]
    exact hr
  | succ n ih =>
    intro i h0 hi q h a b c d S
    obtain ⟨v1, q1, h1, e1, S1, _⟩ := next_ok S h 11
    obtain ⟨v2, q2, h2, e2, S2, _⟩ := next_ok S1 h1 11
    obtain ⟨v3, q3, h3, e3, S3, _⟩ := next_ok S2 h2 11
    obtain ⟨v4, q4, h4, e4, S4, _⟩ := next_ok S3 h3 11
    have go : ∀ g : Nat → Option (Int × Int × Int × Int × Int × Int), Dr C g → (∀ r, Ev g r → Ev (fun k => if wrap64 (wrap64 (wrap64 (v1 - 5) * wrap64 (v4 - 5)) - wrap64 (wrap64 (v2 - 5) * wrap64 (v3 - 5))) = 0 then spec_l04Draw.l0 k (wrap64 (i + 1)) C q4 h4 (wrap64 (v1 - 5)) (wrap64 (v2 - 5)) (wrap64 (v3 - 5)) (wrap64 (v4 - 5)) else spec_l04Draw.j2 k C q4 h4 (wrap64 (v1 - 5)) (wrap64 (v2 - 5)) (wrap64 (v3 - 5)) (wrap64 (v4 - 5))) r) → Dr C (fun k => spec_l04Draw.l0 k i C q h a b c d) := by
      intro g hg hup
      refine hg.of fun r hr => Ev.up ?_
      simp only [spec_l04Draw.l0, if_pos (show i < 5 by omega)]
      refine Ev.up ?_
      simp only [spec_l04Draw.l1, if_pos (show (0 : Int) < 4 by decide), wr0]
      refine Ev.bindv e1 ?_
      simp only [if_true]
      refine Ev.up ?_
      simp only [spec_l04Draw.l1, if_pos (show (1 : Int) < 4 by decide), if_neg (show ¬ (1 : Int) = 0 by decide), if_true, wr1]
      refine Ev.bindv e2 ?_
      refine Ev.up ?_
      simp only [spec_l04Draw.l1, if_pos (show (2 : Int) < 4 by decide), if_neg (show ¬ (2 : Int) = 0 by decide), if_neg (show ¬ (2 : Int) = 1 by decide), if_true, wr2]
      refine Ev.bindv e3 ?_
      refine Ev.up ?_
      simp only [spec_l04Draw.l1, if_pos (show (3 : Int) < 4 by decide), if_neg (show ¬ (3 : Int) = 0 by decide), if_neg (show ¬ (3 : Int) = 1 by decide), if_neg (show ¬ (3 : Int) = 2 by decide), if_true, wr3]
      refine Ev.bindv e4 ?_
      refine Ev.up ?_
      simp only [spec_l04Draw.l1, if_neg (show ¬ (4 : Int) < 4 by decide), spec_l04Det.f, Option.bind_some]
      exact hup r hr
    by_cases c0 : wrap64 (wrap64 (wrap64 (v1 - 5) * wrap64 (v4 - 5)) - wrap64 (wrap64 (v2 - 5) * wrap64 (v3 - 5))) = 0
    · refine go _ (ih (i + 1) (by omega) (by omega) q4 h4 (wrap64 (v1 - 5)) (wrap64 (v2 - 5)) (wrap64 (v3 - 5)) (wrap64 (v4 - 5)) S4) fun r hr => ?_
      simp only [if_pos c0, wid (n := i + 1) (by omega) (by omega)]
      exact hr
    · refine go _ (dj2 S4 h4 (wrap64 (v1 - 5)) (wrap64 (v2 - 5)) (wrap64 (v3 - 5)) (wrap64 (v4 - 5))) fun r hr => ?_
      simp only [if_neg c0]
      exact hr
theorem matDraw_ok {C : List Int} {q : Int} (S : okS C q) (h : Int) : ∃ (g : M4) (q' h' : Int), Ev (fun k => spec_l04Draw.f k C q h) (g.a, g.b, g.c, g.d, q', h') ∧ okS C q' := by
  obtain ⟨a, b, c, d, q', h', h1, h2⟩ := dl0 (C := C) 5 0 (by omega) (by omega) q h 0 0 0 0 S
  exact ⟨⟨a, b, c, d⟩, q', h', h1, h2⟩
theorem ok_bd {g : M4} (h : g.ok = true) : bd62 g.a ∧ bd62 g.b ∧ bd62 g.c ∧ bd62 g.d ∧ (g.a ≠ 0 ∨ g.b ≠ 0) := by
  obtain ⟨g1, g2, g3, g4⟩ := M4.fit_bd (M4.ok_fit h)
  unfold bd62
  exact ⟨by omega, by omega, by omega, by omega, M4.row_ne (M4.ok_det h)⟩
section
variable {C : List Int} (hb : ∀ x ∈ C, 0 ≤ x ∧ x ≤ 255) (hl : C.length ≤ 5000)
include hb hl in
theorem from_ok2 : ∃ h, Ev (fun k => spec_l01From.f k C) (C, 0, h) ∧ okS C 0 := by
  obtain ⟨h, e⟩ := from_ok hb hl
  exact ⟨h, e, ⟨hb, hl, by omega⟩⟩
include hb hl in
theorem drawMul_ok : ∃ g h : M4, Ev (fun k => spec_DrawMultiplyMatrices.f k C) (g.a, g.b, g.c, g.d, h.a, h.b, h.c, h.d) := by
  obtain ⟨h0, e0, S0⟩ := from_ok2 hb hl
  obtain ⟨g, q1, h1, e1, S1⟩ := matDraw_ok S0 h0
  obtain ⟨h, q2, h2, e2, S2⟩ := matDraw_ok S1 h1
  refine ⟨g, h, ?_⟩
  unfold spec_DrawMultiplyMatrices.f
  exact Ev.bind e0 (Ev.bind e1 (Ev.bind e2 (Ev.now _)))
include hb hl in
theorem drawInv_ok : ∃ g : M4, Ev (fun k => spec_DrawInverseMatrix.f k C) (g.a, g.b, g.c, g.d) := by
  obtain ⟨h0, e0, S0⟩ := from_ok2 hb hl
  obtain ⟨g, q1, h1, e1, S1⟩ := matDraw_ok S0 h0
  refine ⟨g, ?_⟩
  unfold spec_DrawInverseMatrix.f
  exact Ev.bind e0 (Ev.bind e1 (Ev.now _))
include hb hl in
theorem drawPow_ok : ∃ (g : M4) (n : Int), Ev (fun k => spec_DrawPowerMatrix.f k C) (g.a, g.b, g.c, g.d, n) := by
  obtain ⟨h0, e0, S0⟩ := from_ok2 hb hl
  obtain ⟨g, q1, h1, e1, S1⟩ := matDraw_ok S0 h0
  obtain ⟨v, q2, h2, e2, S2, _⟩ := next_ok S1 h1 43
  obtain ⟨n, q3, h3, e3, S3⟩ := pick_ok S2 h2 [0, 1, 2, 3, -1, -2, wrap64 (v - 21)] (by simp)
  refine ⟨g, n, ?_⟩
  unfold spec_DrawPowerMatrix.f
  exact Ev.bind e0 (Ev.bind e1 (Ev.bindv e2 (Ev.bindv e3 (Ev.now _))))
include hb hl in
theorem drawRed_ok : ∃ g : M4, Ev (fun k => spec_DrawReduceMatrix.f k C) (g.a, g.b, g.c, g.d) := by
  obtain ⟨h0, e0, S0⟩ := from_ok2 hb hl
  obtain ⟨g, q1, h1, e1, S1⟩ := matDraw_ok S0 h0
  obtain ⟨n, q3, h3, e3, S3⟩ := pick_ok S1 h1 [1, 1, 2, -1, -6] (by simp)
  have hm := spec_l04Is_ev g.a g.b g.c g.d
  cases hB : matB g.a g.b g.c g.d with
  | false =>
    rw [hB] at hm
    refine ⟨g, ?_⟩
    unfold spec_DrawReduceMatrix.f
    refine Ev.bind e0 (Ev.bind e1 (Ev.bindv e3 (Ev.bind hm ?_)))
    simp only [Bool.false_eq_true, if_false]
    exact Ev.now _
  | true =>
    rw [hB] at hm
    refine ⟨⟨wrap64 (g.a * n), wrap64 (g.b * n), wrap64 (g.c * n), wrap64 (g.d * n)⟩, ?_⟩
    unfold spec_DrawReduceMatrix.f
    refine Ev.bind e0 (Ev.bind e1 (Ev.bindv e3 (Ev.bind hm ?_)))
    simp only [if_true]
    refine Ev.up ?_
    simp only [spec_DrawReduceMatrix.l0, if_pos (show (0 : Int) < 4 by decide), if_true, wr0]
    refine Ev.up ?_
    simp only [spec_DrawReduceMatrix.l0, if_pos (show (1 : Int) < 4 by decide), if_neg (show ¬ (1 : Int) = 0 by decide), if_true, wr1]
    refine Ev.up ?_
    simp only [spec_DrawReduceMatrix.l0, if_pos (show (2 : Int) < 4 by decide), if_neg (show ¬ (2 : Int) = 0 by decide), if_neg (show ¬ (2 : Int) = 1 by decide), if_true, wr2]
    refine Ev.up ?_
    simp only [spec_DrawReduceMatrix.l0, if_pos (show (3 : Int) < 4 by decide), if_neg (show ¬ (3 : Int) = 0 by decide), if_neg (show ¬ (3 : Int) = 1 by decide), if_neg (show ¬ (3 : Int) = 2 by decide), if_true, wr3]
    refine Ev.up ?_
    simp only [spec_DrawReduceMatrix.l0, if_neg (show ¬ (4 : Int) < 4 by decide)]
    exact Ev.now _
include hb hl in
theorem drawSame_ok : ∃ g h : M4, Ev (fun k => spec_DrawAreSameMatrices.f k C) (g.a, g.b, g.c, g.d, h.a, h.b, h.c, h.d) := by
  obtain ⟨h0, e0, S0⟩ := from_ok2 hb hl
  obtain ⟨g, e1⟩ := drawRed_ok hb hl
  obtain ⟨v, q2, h2, e2, S2, _⟩ := next_ok S0 h0 2
  obtain ⟨x, q3, h3, e3, S3⟩ := matDraw_ok S2 h2
  have start : ∀ r, Ev (fun k => if v = 0 then (spec_l04Is.f k g.a g.b g.c g.d).bind fun t => spec_DrawAreSameMatrices.j0 k t C q2 h2 g.a g.b g.c g.d else spec_DrawAreSameMatrices.j0 k false C q2 h2 g.a g.b g.c g.d) r → Ev (fun k => spec_DrawAreSameMatrices.f k C) r := fun r hr => by
    unfold spec_DrawAreSameMatrices.f
    exact Ev.bind e0 (Ev.bind e1 (Ev.bindv e2 hr))
  have no : Ev (fun k => spec_DrawAreSameMatrices.j0 k false C q2 h2 g.a g.b g.c g.d) (g.a, g.b, g.c, g.d, x.a, x.b, x.c, x.d) := by
    refine Ev.up ?_
    simp only [spec_DrawAreSameMatrices.j0, Bool.false_eq_true, if_false]
    exact Ev.bind e3 (Ev.now _)
  by_cases c : v = 0
  · have hm := spec_l04Is_ev g.a g.b g.c g.d
    cases hB : matB g.a g.b g.c g.d with
    | false =>
      rw [hB] at hm
      refine ⟨g, x, start _ ?_⟩
      simp only [if_pos c]
      exact Ev.bind hm no
    | true =>
      rw [hB] at hm
      obtain ⟨b1, b2, b3, b4, b5⟩ := ok_bd (g := g) hB
      refine ⟨g, ⟨rM g.a g.b g.c g.d g.a, rM g.a g.b g.c g.d g.b, rM g.a g.b g.c g.d g.c, rM g.a g.b g.c g.d g.d⟩, start _ ?_⟩
      simp only [if_pos c]
      refine Ev.bind hm (Ev.up ?_)
      simp only [spec_DrawAreSameMatrices.j0, if_true]
      exact Ev.bind (spec_l04Reduce_ev b1 b2 b3 b4 b5) (Ev.now _)
  · refine ⟨g, x, start _ ?_⟩
    simp only [if_neg c]
    exact no
end

theorem spec_l04Times_l (a b c d e f g h : Int) (r : Int × Int × Int × Int × Bool) (hr : Ev (fun k => spec_l04Reduce.f k (mulW a b e g) (mulW a b f h) (mulW c d e g) (mulW c d f h)) r) : Ev (fun k => spec_l04Times.f k a b c d e f g h) r := by
  have w0 : wrap64 1 = 1 := wid (by omega) (by omega)
  have w1 : wrap64 2 = 2 := wid (by omega) (by omega)
  unfold spec_l04Times.f
  refine Ev.step (f := fun k => spec_l04Times.l1 k 0 0 a b c d e f g h 0 0 0 0) (fun k => by simp [spec_l04Times.l0]) ?_
  refine Ev.step (f := fun k => spec_l04Times.l1 k 0 1 a b c d e f g h (mulW a b e g) 0 0 0) (fun k => by simp [spec_l04Times.l1, w0, mulW]) ?_
  refine Ev.step (f := fun k => spec_l04Times.l1 k 0 2 a b c d e f g h (mulW a b e g) (mulW a b f h) 0 0) (fun k => by simp [spec_l04Times.l1, w1, mulW]) ?_
  refine Ev.step (f := fun k => spec_l04Times.l0 k 1 a b c d e f g h (mulW a b e g) (mulW a b f h) 0 0) (fun k => by simp [spec_l04Times.l1, w0]) ?_
  refine Ev.step (f := fun k => spec_l04Times.l1 k 1 0 a b c d e f g h (mulW a b e g) (mulW a b f h) 0 0) (fun k => by simp [spec_l04Times.l0]) ?_
  refine Ev.step (f := fun k => spec_l04Times.l1 k 1 1 a b c d e f g h (mulW a b e g) (mulW a b f h) (mulW c d e g) 0) (fun k => by simp [spec_l04Times.l1, w0, mulW]) ?_
  refine Ev.step (f := fun k => spec_l04Times.l1 k 1 2 a b c d e f g h (mulW a b e g) (mulW a b f h) (mulW c d e g) (mulW c d f h)) (fun k => by simp [spec_l04Times.l1, w1, mulW]) ?_
  refine Ev.step (f := fun k => spec_l04Times.l0 k 2 a b c d e f g h (mulW a b e g) (mulW a b f h) (mulW c d e g) (mulW c d f h)) (fun k => by simp [spec_l04Times.l1, w1]) ?_
  refine Ev.step (f := fun k => (spec_l04Reduce.f k (mulW a b e g) (mulW a b f h) (mulW c d e g) (mulW c d f h)).bind fun t => some (t.1, t.2.1, t.2.2.1, t.2.2.2.1, t.2.2.2.2)) (fun k => by simp [spec_l04Times.l0]) ?_
  exact Ev.bind hr (Ev.now _)
theorem spec_l04Times_ev {g h : M4} (hg : g.ok = true) (hh : h.ok = true) : Ev (fun k => spec_l04Times.f k g.a g.b g.c g.d h.a h.b h.c h.d) ((g.mul h).red.a, (g.mul h).red.b, (g.mul h).red.c, (g.mul h).red.d, (g.mul h).red.ok) := by
  obtain ⟨g1, g2, g3, g4⟩ := M4.fit_bd (M4.ok_fit hg)
  obtain ⟨h1, h2, h3, h4⟩ := M4.fit_bd (M4.ok_fit hh)
  have hdet : (g.mul h).det ≠ 0 := by rw [M4.det_mul]; exact Int.mul_ne_zero (M4.ok_det hg) (M4.ok_det hh)
  have m0 : (0 : Int) ≤ 1000 := by omega
  refine spec_l04Times_l _ _ _ _ _ _ _ _ _ ?_
  rw [mulW_eq m0 (by omega) g1 g2 h1 h3, mulW_eq m0 (by omega) g1 g2 h2 h4, mulW_eq m0 (by omega) g3 g4 h1 h3, mulW_eq m0 (by omega) g3 g4 h2 h4]
  have bd : ∀ {x y u v : Int}, (-1000 ≤ x ∧ x ≤ 1000) → (-1000 ≤ y ∧ y ≤ 1000) → (-1000 ≤ u ∧ u ≤ 1000) → (-1000 ≤ v ∧ v ≤ 1000) → bd62 (x * u + y * v) := by
    intro x y u v hx hy hu hv
    obtain ⟨a1, a2⟩ := mul_bd hx.1 hx.2 hu.1 hu.2 m0 m0
    obtain ⟨b1, b2⟩ := mul_bd hy.1 hy.2 hv.1 hv.2 m0 m0
    unfold bd62; omega
  have := spec_l04Reduce_ev (bd g1 g2 h1 h3) (bd g1 g2 h2 h4) (bd g3 g4 h1 h3) (bd g3 g4 h2 h4) (M4.row_ne hdet)
  rw [M4.ok_of (M4.red_det hdet)]
  exact this

theorem impl_gcd_l (n : Nat) : ∀ (a b : Int), b.natAbs < n → -9223372036854775807 ≤ a → a ≤ 9223372036854775807 → -9223372036854775807 ≤ b → b ≤ 9223372036854775807 → Ev (fun k => impl_gcd.l0 k a b) (Int.gcd a b : Int) := by
  induction n with
  | zero => intro a b h; omega
  | succ n ih =>
    intro a b hn ha1 ha2 hb1 hb2
    by_cases hb : b = 0
    · subst hb
      refine Ev.step (f := fun _ => some (mx a (wrap64 (-a)))) (fun k => by simp only [impl_gcd.l0, if_true]) ?_
      rw [mx_abs a ha1 ha2, Int.gcd_zero_right]; exact Ev.now _
    · have hlt : (Int.tmod a b).natAbs < b.natAbs := by rw [Int.natAbs_tmod]; exact Nat.mod_lt _ (by omega)
      refine Ev.step (f := fun k => impl_gcd.l0 k b (Int.tmod a b)) (fun k => by simp only [impl_gcd.l0]; rw [if_neg hb]) ?_
      rw [← gcd_step a b hb]
      exact ih _ _ (by omega) hb1 hb2 (by omega) (by omega)
theorem impl_gcd_ev (a b : Int) (ha1 : -9223372036854775807 ≤ a) (ha2 : a ≤ 9223372036854775807) (hb1 : -9223372036854775807 ≤ b) (hb2 : b ≤ 9223372036854775807) : Ev (fun k => impl_gcd.f k a b) (Int.gcd a b : Int) := by
  unfold impl_gcd.f
  exact impl_gcd_l (b.natAbs + 1) a b (by omega) ha1 ha2 hb1 hb2

theorem impl_within_ev (m : Int) (l : List Int) (hm : 0 ≤ m) (hm2 : m ≤ 4611686018427387904) (hl : l.length ≤ 4611686018427387904) : Ev (fun k => impl_within.f k m l) (l.all (fun x => decide (-m ≤ x ∧ x ≤ m))) := by
  unfold impl_within.f
  rw [← ite_tf (l.all _), ← all_range_rd]
  have w : wrap64 (-m) = -m := wid (by omega) (by omega)
  refine all_ev' (fun k i => impl_within.l0 k m l l.length i) l.length (fun i => decide (-m ≤ rd l (i : Int) ∧ rd l (i : Int) ≤ m)) true false ?_ ?_ ?_
  · intro i r hi hp hr
    have hp := of_decide_eq_true hp
    refine Ev.step (f := fun k => impl_within.l0 k m l l.length ((i : Int) + 1)) (fun k => ?_) hr
    simp only [impl_within.l0]
    rw [if_pos (by omega), if_pos (by omega), if_pos (by omega), w, if_neg (by omega), if_neg (by omega), wid (by omega) (by omega)]
  · intro i hi hp
    have hp := of_decide_eq_false hp
    refine Ev.step (f := fun _ => some false) (fun k => ?_) (Ev.now _)
    simp only [impl_within.l0]
    rw [if_pos (by omega), if_pos (by omega), if_pos (by omega), w]
    by_cases h : rd l (i : Int) < -m
    · rw [if_pos h]
    · rw [if_neg h, if_pos (by omega)]
  · exact Ev.step (f := fun _ => some true) (fun k => by simp only [impl_within.l0]; rw [if_neg (by omega)]) (Ev.now _)

theorem impl_determinant_eq {a b c d m : Int} (hm : 0 ≤ m) (hm2 : m ≤ 2000000000) (ha : -m ≤ a ∧ a ≤ m) (hb : -m ≤ b ∧ b ≤ m) (hc : -m ≤ c ∧ c ≤ m) (hd : -m ≤ d ∧ d ≤ m) : impl_determinant.f a b c d = some (a * d - b * c) := by
  have hmm : m * m ≤ 4000000000000000000 := by have := Int.mul_le_mul hm2 hm2 hm (by omega); omega
  obtain ⟨h1, h2⟩ := det_bd hm ha hb hc hd
  unfold impl_determinant.f
  rw [wid (n := a * d) (by omega) (by omega), wid (n := b * c) (by omega) (by omega), wid (by omega) (by omega)]
theorem impl_IsMatrix_ev (a b c d : Int) : Ev (fun k => impl_IsMatrix.f k a b c d) (matB a b c d) := by
  unfold impl_IsMatrix.f matB
  refine Ev.bind (impl_within_ev 1000 [a, b, c, d] (by omega) (by omega) (by simp)) ?_
  rw [show ([a, b, c, d] : List Int).all (fun x => decide (-1000 ≤ x ∧ x ≤ 1000)) = (entB a && (entB b && (entB c && entB d))) from by simp [entB]]
  cases h : (entB a && (entB b && (entB c && entB d))) with
  | false => simp only [Bool.false_eq_true, if_false, Bool.false_and]; exact Ev.now _
  | true =>
    simp only [Bool.and_eq_true] at h
    simp only [if_true, Bool.true_and]
    refine Ev.bindv (impl_determinant_eq (m := 1000) (by omega) (by omega) ⟨ent_lo h.1, ent_hi h.1⟩ ⟨ent_lo h.2.1, ent_hi h.2.1⟩ ⟨ent_lo h.2.2.1, ent_hi h.2.2.1⟩ ⟨ent_lo h.2.2.2, ent_hi h.2.2.2⟩) ?_
    exact Ev.now _

theorem impl_reduced_l {a b c d y : Int} (ha : bd62 a) (hb : bd62 b) (hc : bd62 c) (hd : bd62 d) (hy : y ≠ 0) :
    Ev (fun k => impl_reduced.l0 k y 0 a b c d) (Int.tdiv a y, Int.tdiv b y, Int.tdiv c y, Int.tdiv d y, matB (Int.tdiv a y) (Int.tdiv b y) (Int.tdiv c y) (Int.tdiv d y)) := by
  have w0 : wrap64 1 = 1 := wid (by omega) (by omega)
  have w1 : wrap64 2 = 2 := wid (by omega) (by omega)
  have wx : ∀ x, bd62 x → wrap64 (Int.tdiv x y) = Int.tdiv x y := fun x hx => by have := tdiv_bd y hx; exact wid (by omega) (by omega)
  refine Ev.step (f := fun k => impl_reduced.l1 k y 0 0 0 a b c d) (fun k => by simp [impl_reduced.l0]) ?_
  refine Ev.step (f := fun k => impl_reduced.l1 k y 0 0 1 (Int.tdiv a y) b c d) (fun k => by simp [impl_reduced.l1, hy, w0, wx a ha]) ?_
  refine Ev.step (f := fun k => impl_reduced.l1 k y 0 0 2 (Int.tdiv a y) (Int.tdiv b y) c d) (fun k => by simp [impl_reduced.l1, hy, w1, wx b hb]) ?_
  refine Ev.step (f := fun k => impl_reduced.l0 k y 1 (Int.tdiv a y) (Int.tdiv b y) c d) (fun k => by simp [impl_reduced.l1, w0]) ?_
  refine Ev.step (f := fun k => impl_reduced.l1 k y 1 1 0 (Int.tdiv a y) (Int.tdiv b y) c d) (fun k => by simp [impl_reduced.l0]) ?_
  refine Ev.step (f := fun k => impl_reduced.l1 k y 1 1 1 (Int.tdiv a y) (Int.tdiv b y) (Int.tdiv c y) d) (fun k => by simp [impl_reduced.l1, hy, w0, wx c hc]) ?_
  refine Ev.step (f := fun k => impl_reduced.l1 k y 1 1 2 (Int.tdiv a y) (Int.tdiv b y) (Int.tdiv c y) (Int.tdiv d y)) (fun k => by simp [impl_reduced.l1, hy, w1, wx d hd]) ?_
  refine Ev.step (f := fun k => impl_reduced.l0 k y 2 (Int.tdiv a y) (Int.tdiv b y) (Int.tdiv c y) (Int.tdiv d y)) (fun k => by simp [impl_reduced.l1, w1]) ?_
  refine Ev.step (f := fun k => (impl_IsMatrix.f k (Int.tdiv a y) (Int.tdiv b y) (Int.tdiv c y) (Int.tdiv d y)).bind fun t => some (Int.tdiv a y, Int.tdiv b y, Int.tdiv c y, Int.tdiv d y, t)) (fun k => by simp [impl_reduced.l0]) ?_
  exact Ev.bind (impl_IsMatrix_ev _ _ _ _) (Ev.now _)
theorem impl_reduced_ev {a b c d : Int} (ha : bd62 a) (hb : bd62 b) (hc : bd62 c) (hd : bd62 d) (hne : a ≠ 0 ∨ b ≠ 0) :
    Ev (fun k => impl_reduced.f k a b c d) (rM a b c d a, rM a b c d b, rM a b c d c, rM a b c d d, matB (rM a b c d a) (rM a b c d b) (rM a b c d c) (rM a b c d d)) := by
  have k1 := gcd_le ha hb
  have k2 := gcd_le hc hd
  have k3 : g4 a b c d ≤ 4611686018427387904 := gcd_le (a := Int.gcd a b) (b := Int.gcd c d) (by omega) (by omega)
  have k0 := g4_nonneg a b c d
  have hy := byM_ne c d hne
  have main := impl_reduced_l ha hb hc hd hy
  unfold bd62 at ha hb hc hd
  unfold impl_reduced.f
  refine Ev.bind (impl_gcd_ev a b (by omega) (by omega) (by omega) (by omega)) (Ev.bind (impl_gcd_ev c d (by omega) (by omega) (by omega) (by omega)) (Ev.bind (impl_gcd_ev _ _ (by omega) (by omega) (by omega) (by omega)) ?_))
  have neg : sg a b = -1 → Ev (fun k => impl_reduced.j0 k (g4 a b c d) true a b c d) (rM a b c d a, rM a b c d b, rM a b c d c, rM a b c d d, matB (rM a b c d a) (rM a b c d b) (rM a b c d c) (rM a b c d d)) := by
    intro e
    refine Ev.step (f := fun k => impl_reduced.j1 k (wrap64 (-(g4 a b c d))) a b c d) (fun k => by simp [impl_reduced.j0]) ?_
    refine Ev.step (f := fun k => impl_reduced.l0 k (wrap64 (-(g4 a b c d))) 0 a b c d) (fun k => by simp [impl_reduced.j1]) ?_
    rw [wid (n := -(g4 a b c d)) (by omega) (by omega), show -(g4 a b c d) = byM a b c d from by unfold byM; rw [e]; omega]
    exact main
  have pos : sg a b = 1 → Ev (fun k => impl_reduced.j0 k (g4 a b c d) false a b c d) (rM a b c d a, rM a b c d b, rM a b c d c, rM a b c d d, matB (rM a b c d a) (rM a b c d b) (rM a b c d c) (rM a b c d d)) := by
    intro e
    refine Ev.step (f := fun k => impl_reduced.j1 k (g4 a b c d) a b c d) (fun k => by simp [impl_reduced.j0]) ?_
    refine Ev.step (f := fun k => impl_reduced.l0 k (g4 a b c d) 0 a b c d) (fun k => by simp [impl_reduced.j1]) ?_
    rw [show g4 a b c d = byM a b c d from by unfold byM; rw [e]; omega]
    exact main
  by_cases h1 : a < 0
  · simp only [if_pos h1]; exact neg (by unfold sg; rw [if_pos (.inl h1)])
  · simp only [if_neg h1]
    by_cases h2 : a = 0
    · simp only [if_pos h2]
      by_cases h3 : b < 0
      · rw [decide_eq_true h3]; exact neg (by unfold sg; rw [if_pos (.inr ⟨h2, h3⟩)])
      · rw [decide_eq_false h3]; exact pos (by unfold sg; rw [if_neg (by omega)])
    · simp only [if_neg h2]; exact pos (by unfold sg; rw [if_neg (by omega)])

theorem impl_product_l (a b c d e f g h : Int) (r : Int × Int × Int × Int × Bool) (hr : Ev (fun k => impl_reduced.f k (mulW a b e g) (mulW a b f h) (mulW c d e g) (mulW c d f h)) r) : Ev (fun k => impl_product.f k a b c d e f g h) r := by
  have w0 : wrap64 1 = 1 := wid (by omega) (by omega)
  have w1 : wrap64 2 = 2 := wid (by omega) (by omega)
  unfold impl_product.f
  refine Ev.step (f := fun k => impl_product.l1 k 0 0 0 a b c d e f g h 0 0 0 0) (fun k => by simp [impl_product.l0]) ?_
  refine Ev.step (f := fun k => impl_product.l1 k 0 0 1 a b c d e f g h (mulW a b e g) 0 0 0) (fun k => by simp [impl_product.l1, w0, mulW]) ?_
  refine Ev.step (f := fun k => impl_product.l1 k 0 0 2 a b c d e f g h (mulW a b e g) (mulW a b f h) 0 0) (fun k => by simp [impl_product.l1, w1, mulW]) ?_
  refine Ev.step (f := fun k => impl_product.l0 k 1 a b c d e f g h (mulW a b e g) (mulW a b f h) 0 0) (fun k => by simp [impl_product.l1, w0]) ?_
  refine Ev.step (f := fun k => impl_product.l1 k 1 1 0 a b c d e f g h (mulW a b e g) (mulW a b f h) 0 0) (fun k => by simp [impl_product.l0]) ?_
  refine Ev.step (f := fun k => impl_product.l1 k 1 1 1 a b c d e f g h (mulW a b e g) (mulW a b f h) (mulW c d e g) 0) (fun k => by simp [impl_product.l1, w0, mulW]) ?_
  refine Ev.step (f := fun k => impl_product.l1 k 1 1 2 a b c d e f g h (mulW a b e g) (mulW a b f h) (mulW c d e g) (mulW c d f h)) (fun k => by simp [impl_product.l1, w1, mulW]) ?_
  refine Ev.step (f := fun k => impl_product.l0 k 2 a b c d e f g h (mulW a b e g) (mulW a b f h) (mulW c d e g) (mulW c d f h)) (fun k => by simp [impl_product.l1, w1]) ?_
  refine Ev.step (f := fun k => (impl_reduced.f k (mulW a b e g) (mulW a b f h) (mulW c d e g) (mulW c d f h)).bind fun t => some (t.1, t.2.1, t.2.2.1, t.2.2.2.1, t.2.2.2.2)) (fun k => by simp [impl_product.l0]) ?_
  exact Ev.bind hr (Ev.now _)
theorem impl_product_ev {g h : M4} (hg : g.ok = true) (hh : h.ok = true) : Ev (fun k => impl_product.f k g.a g.b g.c g.d h.a h.b h.c h.d) ((g.mul h).red.a, (g.mul h).red.b, (g.mul h).red.c, (g.mul h).red.d, (g.mul h).red.ok) := by
  obtain ⟨g1, g2, g3, g4⟩ := M4.fit_bd (M4.ok_fit hg)
  obtain ⟨h1, h2, h3, h4⟩ := M4.fit_bd (M4.ok_fit hh)
  have hdet : (g.mul h).det ≠ 0 := by rw [M4.det_mul]; exact Int.mul_ne_zero (M4.ok_det hg) (M4.ok_det hh)
  have m0 : (0 : Int) ≤ 1000 := by omega
  refine impl_product_l _ _ _ _ _ _ _ _ _ ?_
  rw [mulW_eq m0 (by omega) g1 g2 h1 h3, mulW_eq m0 (by omega) g1 g2 h2 h4, mulW_eq m0 (by omega) g3 g4 h1 h3, mulW_eq m0 (by omega) g3 g4 h2 h4]
  have bd : ∀ {x y u v : Int}, (-1000 ≤ x ∧ x ≤ 1000) → (-1000 ≤ y ∧ y ≤ 1000) → (-1000 ≤ u ∧ u ≤ 1000) → (-1000 ≤ v ∧ v ≤ 1000) → bd62 (x * u + y * v) := by
    intro x y u v hx hy hu hv
    obtain ⟨a1, a2⟩ := mul_bd hx.1 hx.2 hu.1 hu.2 m0 m0
    obtain ⟨b1, b2⟩ := mul_bd hy.1 hy.2 hv.1 hv.2 m0 m0
    unfold bd62; omega
  have := impl_reduced_ev (bd g1 g2 h1 h3) (bd g1 g2 h2 h4) (bd g3 g4 h1 h3) (bd g3 g4 h2 h4) (M4.row_ne hdet)
  exact this

theorem impl_reduce_ev {a b c d : Int} (ha : bd62 a) (hb : bd62 b) (hc : bd62 c) (hd : bd62 d) (hne : a ≠ 0 ∨ b ≠ 0) :
    Ev (fun k => impl_reduce.f k a b c d) (rM a b c d a, rM a b c d b, rM a b c d c, rM a b c d d) := by
  unfold impl_reduce.f
  exact Ev.bind (impl_reduced_ev ha hb hc hd hne) (Ev.now _)

theorem wneg {x M : Int} (hM : M ≤ 4611686018427387904) (h : -M ≤ x ∧ x ≤ M) : wrap64 (-x) = -x := wid (by omega) (by omega)
theorem impl_inverted_ev {g : M4} (hg : g.ok = true) : Ev (fun k => impl_inverted.f k g.a g.b g.c g.d) (g.adj.red.a, g.adj.red.b, g.adj.red.c, g.adj.red.d) := by
  obtain ⟨g1, g2, g3, g4⟩ := M4.fit_bd (M4.ok_fit hg)
  unfold impl_inverted.f
  rw [wneg (by omega) g2, wneg (by omega) g3]
  have := impl_reduce_ev (a := g.d) (b := -g.b) (c := -g.c) (d := g.a) (by unfold bd62; omega) (by unfold bd62; omega) (by unfold bd62; omega) (by unfold bd62; omega) (M4.row_ne (g := g.adj) (by rw [M4.adj_det]; exact M4.ok_det hg))
  exact Ev.bind this (Ev.now _)

theorem wneg' {x M : Int} (hM : M ≤ 4611686018427387904) (h : -M ≤ x ∧ x ≤ M) : wrap64 (-x) = -x := wid (by omega) (by omega)
theorem spec_l04Inverse_ev {g : M4} (hg : g.ok = true) : Ev (fun k => spec_l04Inverse.f k g.a g.b g.c g.d) (g.adj.red.a, g.adj.red.b, g.adj.red.c, g.adj.red.d) := by
  obtain ⟨g1, g2, g3, g4⟩ := M4.fit_bd (M4.ok_fit hg)
  unfold spec_l04Inverse.f
  rw [wneg' (by omega) g2, wneg' (by omega) g3]
  have := spec_l04Reduce_ev (a := g.d) (b := -g.b) (c := -g.c) (d := g.a) (by unfold bd62; omega) (by unfold bd62; omega) (by unfold bd62; omega) (by unfold bd62; omega) (M4.row_ne (g := g.adj) (by rw [M4.adj_det]; exact M4.ok_det hg))
  exact Ev.bind this (Ev.now _)

def pwW (G : M4) : Nat → M4 → Int × Int × Int × Int × Int
  | 0, A => (A.a, A.b, A.c, A.d, 0)
  | n + 1, A => if (A.mul G).red.ok then pwW G n (A.mul G).red else (0, 0, 0, 0, 3)
theorem impl_Power_l (G : M4) (hG : G.ok = true) (N : Int) (hN : N ≤ 20) (n : Nat) : ∀ (i : Int) (A : M4), 0 ≤ i → i + n = N → A.ok = true → Ev (fun k => impl_PowerMatrix.l0 k N i G.a G.b G.c G.d A.a A.b A.c A.d) (pwW G n A) := by
  induction n with
  | zero =>
    intro i A h0 hi hA
    exact Ev.step (f := fun _ => some (A.a, A.b, A.c, A.d, 0)) (fun k => by simp only [impl_PowerMatrix.l0]; rw [if_neg (by omega)]) (Ev.now _)
  | succ n ih =>
    intro i A h0 hi hA
    refine Ev.step (f := fun k => (impl_product.f k A.a A.b A.c A.d G.a G.b G.c G.d).bind fun t => if t.2.2.2.2 = true then impl_PowerMatrix.l0 k N (i + 1) G.a G.b G.c G.d t.1 t.2.1 t.2.2.1 t.2.2.2.1 else some (0, 0, 0, 0, 3)) (fun k => ?_) ?_
    · simp only [impl_PowerMatrix.l0]
      rw [if_pos (by omega), wid (n := i + 1) (by omega) (by omega)]
    · refine Ev.bind (impl_product_ev hA hG) ?_
      unfold pwW
      cases h : (A.mul G).red.ok with
      | false => simp; exact Ev.now _
      | true => simp only [if_true]; exact ih (i + 1) _ (by omega) (by omega) h
theorem spec_Power_l (g G : M4) (hg : g.ok = true) (he : ∀ A : M4, A.ok = true → (A.mul g).red = (A.mul G).red) (n : Nat) : ∀ (A : M4), n ≤ 20 → A.ok = true → Ev (fun k => spec_PowerMatrix.l0 k n g.a g.b g.c g.d A.a A.b A.c A.d) (pwW G n A) := by
  induction n with
  | zero =>
    intro A hn hA
    exact Ev.step (f := fun _ => some (A.a, A.b, A.c, A.d, 0)) (fun k => by simp only [spec_PowerMatrix.l0]; rw [if_neg (by omega)]) (Ev.now _)
  | succ n ih =>
    intro A hn hA
    refine Ev.step (f := fun k => (spec_l04Times.f k A.a A.b A.c A.d g.a g.b g.c g.d).bind fun t => if t.2.2.2.2 = true then spec_PowerMatrix.l0 k (n : Int) g.a g.b g.c g.d t.1 t.2.1 t.2.2.1 t.2.2.2.1 else some (0, 0, 0, 0, 3)) (fun k => ?_) ?_
    · simp only [spec_PowerMatrix.l0]
      rw [if_pos (by omega), show wrap64 (((n + 1 : Nat) : Int) - 1) = (n : Int) from by rw [wid (by omega) (by omega)]; omega]
    · have h1 := spec_l04Times_ev hA hg
      rw [he A hA] at h1
      refine Ev.bind h1 ?_
      unfold pwW
      cases h : (A.mul G).red.ok with
      | false => simp; exact Ev.now _
      | true => simp only [if_true]; exact ih _ (by omega) h
def powerW (a b c d n : Int) : Int × Int × Int × Int × Int :=
  if matB a b c d then (if n < -20 ∨ 20 < n then (0, 0, 0, 0, 2) else if n < 0 then pwW (M4.mk a b c d).adj.red (-n).toNat M4.one else pwW (M4.mk a b c d).red n.toNat M4.one) else (0, 0, 0, 0, 1)
theorem one_ok : M4.one.ok = true := by decide
theorem adj_ok {g : M4} (h : g.ok = true) : g.adj.ok = true := by
  rw [M4.ok_of (by rw [M4.adj_det]; exact M4.ok_det h)]
  obtain ⟨g1, g2, g3, g4⟩ := M4.fit_bd (M4.ok_fit h)
  unfold M4.fit M4.adj
  simp only [ent_of (show -1000 ≤ g.d ∧ g.d ≤ 1000 from g4), ent_of (show -1000 ≤ -g.b ∧ -g.b ≤ 1000 by omega), ent_of (show -1000 ≤ -g.c ∧ -g.c ≤ 1000 by omega), ent_of g1, Bool.and_self]
theorem impl_PowerMatrix_ev (a b c d n : Int) : Ev (fun k => impl_PowerMatrix.f k a b c d n) (powerW a b c d n) := by
  have start : ∀ (G : M4) (N : Int), G.ok = true → 0 ≤ N → N ≤ 20 → Ev (fun k => impl_PowerMatrix.j0 k N G.a G.b G.c G.d) (pwW G N.toNat M4.one) := by
    intro G N hG h0 h20
    refine Ev.step (f := fun k => impl_PowerMatrix.l0 k N 0 G.a G.b G.c G.d 1 0 0 1) (fun k => by simp only [impl_PowerMatrix.j0, impl_one.f, Option.bind_some]) ?_
    exact impl_Power_l G hG N h20 N.toNat 0 M4.one (by omega) (by omega) one_ok
  unfold impl_PowerMatrix.f powerW
  refine Ev.bind (impl_IsMatrix_ev a b c d) ?_
  cases h : matB a b c d with
  | false => simp; exact Ev.now _
  | true =>
    have hg : (M4.mk a b c d).ok = true := h
    simp only [if_true]
    by_cases h1 : n < -20
    · simp only [if_pos h1, if_pos (show n < -20 ∨ 20 < n from .inl h1)]; exact Ev.now _
    simp only [if_neg h1]
    by_cases h2 : n > 20
    · simp only [if_pos h2, if_pos (show n < -20 ∨ 20 < n from .inr h2)]; exact Ev.now _
    simp only [if_neg h2, if_neg (show ¬ (n < -20 ∨ 20 < n) by omega)]
    obtain ⟨g1, g2, g3, g4⟩ := M4.fit_bd (M4.ok_fit hg)
    refine Ev.bind (impl_reduce_ev (a := a) (b := b) (c := c) (d := d) (by unfold bd62; simp only at g1; omega) (by unfold bd62; simp only at g2; omega) (by unfold bd62; simp only at g3; omega) (by unfold bd62; simp only at g4; omega) (M4.row_ne (M4.ok_det hg))) ?_
    by_cases h3 : n < 0
    · simp only [if_pos h3]
      have hi := impl_inverted_ev (M4.red_ok hg)
      rw [M4.red_adj_red (M4.ok_det hg)] at hi
      refine Ev.bind hi ?_
      rw [wid (n := -n) (by omega) (by omega)]
      exact start _ _ (M4.red_ok (adj_ok hg)) (by omega) (by omega)
    · simp only [if_neg h3]
      exact start _ _ (M4.red_ok hg) (by omega) (by omega)
theorem spec_PowerMatrix_ev (a b c d n : Int) : Ev (fun k => spec_PowerMatrix.f k a b c d n) (powerW a b c d n) := by
  have start : ∀ (g G : M4) (N : Int), g.ok = true → (∀ A : M4, A.ok = true → (A.mul g).red = (A.mul G).red) → 0 ≤ N → N ≤ 20 → Ev (fun k => spec_PowerMatrix.j0 k N g.a g.b g.c g.d) (pwW G N.toNat M4.one) := by
    intro g G N hg he h0 h20
    refine Ev.step (f := fun k => spec_PowerMatrix.l0 k (N.toNat : Int) g.a g.b g.c g.d 1 0 0 1) (fun k => by simp only [spec_PowerMatrix.j0]; rw [show (N.toNat : Int) = N from by omega]) ?_
    exact spec_Power_l g G hg he N.toNat M4.one (by omega) one_ok
  unfold spec_PowerMatrix.f powerW
  refine Ev.bind (spec_l04Is_ev a b c d) ?_
  cases h : matB a b c d with
  | false => simp; exact Ev.now _
  | true =>
    have hg : (M4.mk a b c d).ok = true := h
    simp only [if_true]
    refine Ev.bindv (In_eq _ _ _) ?_
    by_cases h1 : -20 ≤ n ∧ n ≤ 20
    · rw [decide_eq_true h1]
      simp only [if_true, if_neg (show ¬ (n < -20 ∨ 20 < n) by omega)]
      by_cases h3 : n < 0
      · simp only [if_pos h3]
        refine Ev.bind (spec_l04Inverse_ev hg) ?_
        rw [wid (n := -n) (by omega) (by omega)]
        exact start (M4.mk a b c d).adj.red _ _ (M4.red_ok (adj_ok hg)) (fun _ _ => rfl) (by omega) (by omega)
      · simp only [if_neg h3]
        exact start (M4.mk a b c d) _ _ hg (fun A hA => (M4.red_mul_red (M4.ok_det hA) (M4.ok_det hg)).symm) (by omega) (by omega)
    · rw [decide_eq_false h1]
      simp only [Bool.false_eq_true, if_false, if_pos (show n < -20 ∨ 20 < n by omega)]
      exact Ev.now _

theorem M4.smul_mul (m : Int) (g h : M4) : (g.smul m).mul h = (g.mul h).smul m := by
  apply M4.ext' <;> simp only [M4.mul, M4.smul, Int.mul_add, Int.mul_assoc]
theorem M4.red_red {g : M4} (hg : g.det ≠ 0) : g.red.red = g.red := by
  conv => rhs; rw [← M4.smul_red g]
  rw [M4.red_smul (M4.by_ne hg) (M4.red_det hg)]
theorem M4.red_mul_left {g h : M4} (hg : g.det ≠ 0) (hh : h.det ≠ 0) : (g.red.mul h).red = (g.mul h).red := by
  conv => rhs; rw [← M4.smul_red g, M4.smul_mul]
  rw [M4.red_smul (M4.by_ne hg)]
  rw [M4.det_mul]; exact Int.mul_ne_zero (M4.red_det hg) hh
theorem M4.mul_assoc (g h x : M4) : (g.mul h).mul x = g.mul (h.mul x) := by
  apply M4.ext' <;> simp only [M4.mul] <;> grind
theorem M4.mul_one' (g : M4) : g.mul M4.one = g := by apply M4.ext' <;> simp [M4.mul, M4.one]
theorem M4.mul_adj (g : M4) : g.mul g.adj = M4.one.smul g.det := by
  apply M4.ext' <;> simp only [M4.mul, M4.adj, M4.one, M4.smul, M4.det] <;> grind
theorem M4.adj_mul (g : M4) : g.adj.mul g = M4.one.smul g.det := by
  apply M4.ext' <;> simp only [M4.mul, M4.adj, M4.one, M4.smul, M4.det] <;> grind
theorem M4.adj_adj (g : M4) : g.adj.adj = g := by apply M4.ext' <;> simp [M4.adj]
theorem M4.one_red : M4.one.red = M4.one := by
  apply M4.ext' <;> decide
theorem M4.one_det : M4.one.det ≠ 0 := by decide
theorem M4.mul_inv {g : M4} (hg : g.det ≠ 0) : (g.mul g.adj.red).red = M4.one := by
  rw [M4.red_mul_red hg (by rw [M4.adj_det]; exact hg), M4.mul_adj, M4.red_smul hg M4.one_det, M4.one_red]
theorem M4.inv_inv {g : M4} (hg : g.det ≠ 0) : g.adj.red.adj.red = g.red := by
  rw [M4.red_adj_red (by rw [M4.adj_det]; exact hg), M4.adj_adj]
theorem M4.mul_back {q z : M4} (hq : q.det ≠ 0) (hz : z.det ≠ 0) : ((q.mul z.adj.red).red.mul z).red = q.red := by
  have ha : z.adj.det ≠ 0 := by rw [M4.adj_det]; exact hz
  rw [M4.red_mul_red hq ha, M4.red_mul_left (by rw [M4.det_mul]; exact Int.mul_ne_zero hq ha) hz, M4.mul_assoc, M4.adj_mul, M4.mul_smul, M4.mul_one', M4.red_smul hz hq]
theorem pwW_snoc (G : M4) (n : Nat) : ∀ A P : M4, pwW G n A = (P.a, P.b, P.c, P.d, 0) → pwW G (n + 1) A = (if (P.mul G).red.ok then ((P.mul G).red.a, (P.mul G).red.b, (P.mul G).red.c, (P.mul G).red.d, 0) else (0, 0, 0, 0, 3)) := by
  induction n with
  | zero =>
    intro A P h
    have e : A = P := by
      simp only [pwW, Prod.mk.injEq] at h
      exact M4.ext' h.1 h.2.1 h.2.2.1 h.2.2.2.1
    subst e
    simp only [pwW]
  | succ n ih =>
    intro A P h
    simp only [pwW] at h
    by_cases hk : (A.mul G).red.ok = true
    · rw [if_pos hk] at h
      have := ih _ _ h
      conv => lhs; unfold pwW
      rw [if_pos hk]
      exact this
    · rw [if_neg hk] at h
      simp at h
theorem pwW_good (G : M4) (hG : G.ok = true) (n : Nat) : ∀ A : M4, A.ok = true → A.red = A → ∃ P : M4, (pwW G n A = (P.a, P.b, P.c, P.d, 0) ∧ P.ok = true ∧ P.red = P) ∨ pwW G n A = (0, 0, 0, 0, 3) := by
  induction n with
  | zero => intro A h1 h2; exact ⟨A, .inl ⟨rfl, h1, h2⟩⟩
  | succ n ih =>
    intro A h1 h2
    simp only [pwW]
    by_cases hk : (A.mul G).red.ok = true
    · rw [if_pos hk]
      have hd : (A.mul G).det ≠ 0 := by rw [M4.det_mul]; exact Int.mul_ne_zero (M4.ok_det h1) (M4.ok_det hG)
      exact ih _ hk (M4.red_red hd)
    · rw [if_neg hk]; exact ⟨A, .inr rfl⟩
theorem power_next {a b c d k : Int} {P N : M4} (hz : (M4.mk a b c d).ok = true) (hk : k < 20) (hP : powerW a b c d k = (P.a, P.b, P.c, P.d, 0)) (hN : powerW a b c d (k + 1) = (N.a, N.b, N.c, N.d, 0)) : P.ok = true ∧ ((P.mul (M4.mk a b c d)).red = N) := by
  have hd := M4.ok_det hz
  have hm : matB a b c d = true := hz
  have inj : ∀ {X Y : M4} {e : Int}, (X.a, X.b, X.c, X.d, (0 : Int)) = (Y.a, Y.b, Y.c, Y.d, e) → X = Y := fun h => by
    simp only [Prod.mk.injEq] at h; exact M4.ext' h.1 h.2.1 h.2.2.1 h.2.2.2.1
  unfold powerW at hP hN
  rw [if_pos hm] at hP hN
  by_cases h0 : k < -20 ∨ 20 < k
  · rw [if_pos h0] at hP; simp at hP
  rw [if_neg h0] at hP
  rw [if_neg (by omega)] at hN
  have hi : (M4.mk a b c d).adj.red.ok = true := M4.red_ok (adj_ok hz)
  by_cases h1 : k < 0
  · rw [if_pos h1] at hP
    obtain ⟨m, hm2⟩ : ∃ m : Nat, (-k).toNat = m + 1 := ⟨(-k).toNat - 1, by omega⟩
    have hQ : pwW (M4.mk a b c d).adj.red m M4.one = (N.a, N.b, N.c, N.d, 0) := by
      by_cases h2 : k + 1 < 0
      · rw [if_pos h2, show (-(k + 1)).toNat = m from by omega] at hN; exact hN
      · rw [if_neg h2, show (k + 1).toNat = 0 from by omega] at hN
        rw [show m = 0 from by omega]
        exact hN
    obtain ⟨Q, hq⟩ := pwW_good (M4.mk a b c d).adj.red hi m M4.one one_ok M4.one_red
    rw [hQ] at hq
    rcases hq with ⟨q1, q2, q3⟩ | q1
    · have e := inj q1
      subst e
      rw [hm2, pwW_snoc _ _ _ _ hQ] at hP
      by_cases hk2 : (N.mul (M4.mk a b c d).adj.red).red.ok = true
      · rw [if_pos hk2] at hP
        have e2 := inj hP
        rw [← e2]
        refine ⟨hk2, ?_⟩
        rw [M4.mul_back (M4.ok_det q2) hd, q3]
      · rw [if_neg hk2] at hP; simp at hP
    · simp at q1
  · rw [if_neg h1] at hP
    rw [if_neg (by omega), show (k + 1).toNat = k.toNat + 1 from by omega, pwW_snoc _ _ _ _ hP] at hN
    obtain ⟨Q, hq⟩ := pwW_good (M4.mk a b c d).red (M4.red_ok hz) k.toNat M4.one one_ok M4.one_red
    rw [hP] at hq
    rcases hq with ⟨q1, q2, q3⟩ | q1
    · have e := inj q1
      subst e
      by_cases hk2 : (P.mul (M4.mk a b c d).red).red.ok = true
      · rw [if_pos hk2] at hN
        have e2 := inj hN
        rw [← e2, M4.red_mul_red (M4.ok_det q2) hd]
        exact ⟨q2, rfl⟩
      · rw [if_neg hk2] at hN; simp at hN
    · simp at q1

def m4 (x : S26) : M4 := ⟨x.f0.f0, x.f0.f1, x.f1.f0, x.f1.f1⟩
theorem impl_areMatrices_ev (l : List S26) (hl : l.length ≤ 4611686018427387904) : Ev (fun k => impl_areMatrices.f k l) (l.all (fun x => (m4 x).ok)) := by
  unfold impl_areMatrices.f
  have hr : ∀ (i : Nat) (k : Nat), i < l.length → impl_areMatrices.l0 (k + 1) l l.length i = (impl_IsMatrix.f k (l.getD i z26).f0.f0 (l.getD i z26).f0.f1 (l.getD i z26).f1.f0 (l.getD i z26).f1.f1).bind fun t => if t = true then impl_areMatrices.l0 k l l.length ((i : Int) + 1) else some false := by
    intro i k hi
    simp only [impl_areMatrices.l0]
    rw [if_pos (by omega), if_pos (by omega), if_pos (by omega), wid (by omega) (by omega)]; rfl
  have := all_ev' (fun k i => impl_areMatrices.l0 k l l.length i) l.length (fun i => (m4 (l.getD i z26)).ok) true false (by
    intro i r hi hb hr'
    refine Ev.step (hr i · hi) (Ev.bind (impl_IsMatrix_ev _ _ _ _) ?_)
    have hb' : matB (l.getD i z26).f0.f0 (l.getD i z26).f0.f1 (l.getD i z26).f1.f0 (l.getD i z26).f1.f1 = true := hb
    rw [hb']; simpa using hr') (by
    intro i hi hb
    refine Ev.step (hr i · hi) (Ev.bind (impl_IsMatrix_ev _ _ _ _) ?_)
    have hb' : matB (l.getD i z26).f0.f0 (l.getD i z26).f0.f1 (l.getD i z26).f1.f0 (l.getD i z26).f1.f1 = false := hb
    rw [hb']; simp; exact Ev.now _) (Ev.step (f := fun _ => some true) (fun k => by simp only [impl_areMatrices.l0]; rw [if_neg (by omega)]) (Ev.now _))
  rw [all_range_getD l z26 (fun x => (m4 x).ok), ite_tf] at this
  exact this

def M4.z : M4 := ⟨0, 0, 0, 0⟩
def mulX (g h : M4) : M4 × Int := if (g.ok && h.ok) = true then (if (g.mul h).red.ok = true then ((g.mul h).red, 0) else (M4.z, 3)) else (M4.z, 1)
def redX (g : M4) : M4 × Int := if g.ok = true then (g.red, 0) else (M4.z, 1)
def invX (g : M4) : M4 × Int := if g.ok = true then (g.adj.red, 0) else (M4.z, 1)
def sameB (g h : M4) : Bool := (g.a == h.a && (g.b == h.b)) && (g.c == h.c && (g.d == h.d))
def samX (g h : M4) : Bool × Int := if (g.ok && h.ok) = true then (sameB g.red h.red, 0) else (false, 1)
theorem impl_mulX (g h : M4) : Ev (fun k => impl_MultiplyMatrices.f k g.a g.b g.c g.d h.a h.b h.c h.d) ((mulX g h).1.a, (mulX g h).1.b, (mulX g h).1.c, (mulX g h).1.d, (mulX g h).2) := by
  unfold impl_MultiplyMatrices.f mulX
  have h1 := impl_areMatrices_ev [⟨⟨g.a, g.b⟩, ⟨g.c, g.d⟩⟩, ⟨⟨h.a, h.b⟩, ⟨h.c, h.d⟩⟩] (by simp)
  have e : ([⟨⟨g.a, g.b⟩, ⟨g.c, g.d⟩⟩, ⟨⟨h.a, h.b⟩, ⟨h.c, h.d⟩⟩] : List S26).all (fun x => (m4 x).ok) = (g.ok && h.ok) := by simp [m4]
  rw [e] at h1
  refine Ev.bind h1 ?_
  by_cases c : (g.ok && h.ok) = true
  · simp only [if_pos c]
    rw [Bool.and_eq_true] at c
    refine Ev.bind (impl_product_ev c.1 c.2) ?_
    by_cases c2 : (g.mul h).red.ok = true
    · simp only [if_pos c2, impl_fittedMatrix.f, Option.bind_some]; exact Ev.now _
    · simp only [if_neg c2, impl_fittedMatrix.f, Option.bind_some]; exact Ev.now _
  · simp only [if_neg c]; exact Ev.now _
theorem spec_mulX (g h : M4) : Ev (fun k => spec_MultiplyMatrices.f k g.a g.b g.c g.d h.a h.b h.c h.d) ((mulX g h).1.a, (mulX g h).1.b, (mulX g h).1.c, (mulX g h).1.d, (mulX g h).2) := by
  unfold spec_MultiplyMatrices.f mulX
  refine Ev.bind (spec_l04Is_ev g.a g.b g.c g.d) ?_
  have no : Ev (fun k => spec_MultiplyMatrices.j0 k true g.a g.b g.c g.d h.a h.b h.c h.d) (0, 0, 0, 0, 1) := Ev.up (by simp only [spec_MultiplyMatrices.j0, if_true]; exact Ev.now _)
  cases c : matB g.a g.b g.c g.d with
  | false =>
    rw [show g.ok = false from c]
    simp only [Bool.false_and, Bool.false_eq_true, if_false]
    exact no
  | true =>
    rw [show g.ok = true from c]
    simp only [Bool.true_and, if_true]
    refine Ev.bind (spec_l04Is_ev h.a h.b h.c h.d) ?_
    cases c2 : matB h.a h.b h.c h.d with
    | false =>
      rw [show h.ok = false from c2]
      simp only [Bool.false_eq_true, if_false]
      exact no
    | true =>
      rw [show h.ok = true from c2]
      simp only [if_true]
      refine Ev.up ?_
      simp only [spec_MultiplyMatrices.j0, Bool.not_true, Bool.false_eq_true, if_false]
      refine Ev.bind (spec_l04Times_ev (g := g) (h := h) c c2) ?_
      by_cases c3 : (g.mul h).red.ok = true
      · simp only [if_pos c3]; exact Ev.now _
      · simp only [if_neg c3]; exact Ev.now _
theorem impl_redM {g : M4} (h : g.ok = true) : Ev (fun k => impl_reduce.f k g.a g.b g.c g.d) (g.red.a, g.red.b, g.red.c, g.red.d) := by
  obtain ⟨b1, b2, b3, b4, b5⟩ := ok_bd h
  exact impl_reduce_ev b1 b2 b3 b4 b5
theorem spec_redM {g : M4} (h : g.ok = true) : ∃ f, Ev (fun k => spec_l04Reduce.f k g.a g.b g.c g.d) (g.red.a, g.red.b, g.red.c, g.red.d, f) := by
  obtain ⟨b1, b2, b3, b4, b5⟩ := ok_bd h
  exact ⟨_, spec_l04Reduce_ev b1 b2 b3 b4 b5⟩
theorem impl_redX (g : M4) : Ev (fun k => impl_ReduceMatrix.f k g.a g.b g.c g.d) ((redX g).1.a, (redX g).1.b, (redX g).1.c, (redX g).1.d, (redX g).2) := by
  unfold impl_ReduceMatrix.f redX
  refine Ev.bind (impl_IsMatrix_ev g.a g.b g.c g.d) ?_
  cases c : matB g.a g.b g.c g.d with
  | false => rw [show g.ok = false from c]; simp only [Bool.false_eq_true, if_false]; exact Ev.now _
  | true => rw [show g.ok = true from c]; simp only [if_true]; exact Ev.bind (impl_redM c) (Ev.now _)
theorem spec_redX (g : M4) : Ev (fun k => spec_ReduceMatrix.f k g.a g.b g.c g.d) ((redX g).1.a, (redX g).1.b, (redX g).1.c, (redX g).1.d, (redX g).2) := by
  unfold spec_ReduceMatrix.f redX
  refine Ev.bind (spec_l04Is_ev g.a g.b g.c g.d) ?_
  cases c : matB g.a g.b g.c g.d with
  | false => rw [show g.ok = false from c]; simp only [Bool.false_eq_true, if_false]; exact Ev.now _
  | true =>
    obtain ⟨f, hf⟩ := spec_redM (g := g) c
    rw [show g.ok = true from c]; simp only [if_true]; exact Ev.bind hf (Ev.now _)
theorem impl_invX (g : M4) : Ev (fun k => impl_InverseMatrix.f k g.a g.b g.c g.d) ((invX g).1.a, (invX g).1.b, (invX g).1.c, (invX g).1.d, (invX g).2) := by
  unfold impl_InverseMatrix.f invX
  refine Ev.bind (impl_IsMatrix_ev g.a g.b g.c g.d) ?_
  cases c : matB g.a g.b g.c g.d with
  | false => rw [show g.ok = false from c]; simp only [Bool.false_eq_true, if_false]; exact Ev.now _
  | true => rw [show g.ok = true from c]; simp only [if_true]; exact Ev.bind (impl_inverted_ev (g := g) c) (Ev.now _)
theorem spec_invX (g : M4) : Ev (fun k => spec_InverseMatrix.f k g.a g.b g.c g.d) ((invX g).1.a, (invX g).1.b, (invX g).1.c, (invX g).1.d, (invX g).2) := by
  unfold spec_InverseMatrix.f invX
  refine Ev.bind (spec_l04Is_ev g.a g.b g.c g.d) ?_
  cases c : matB g.a g.b g.c g.d with
  | false => rw [show g.ok = false from c]; simp only [Bool.false_eq_true, if_false]; exact Ev.now _
  | true => rw [show g.ok = true from c]; simp only [if_true]; exact Ev.bind (spec_l04Inverse_ev (g := g) c) (Ev.now _)
theorem impl_samX (g h : M4) : Ev (fun k => impl_AreSameMatrices.f k g.a g.b g.c g.d h.a h.b h.c h.d) (samX g h) := by
  unfold impl_AreSameMatrices.f samX
  have h1 := impl_areMatrices_ev [⟨⟨g.a, g.b⟩, ⟨g.c, g.d⟩⟩, ⟨⟨h.a, h.b⟩, ⟨h.c, h.d⟩⟩] (by simp)
  have e : ([⟨⟨g.a, g.b⟩, ⟨g.c, g.d⟩⟩, ⟨⟨h.a, h.b⟩, ⟨h.c, h.d⟩⟩] : List S26).all (fun x => (m4 x).ok) = (g.ok && h.ok) := by simp [m4]
  rw [e] at h1
  refine Ev.bind h1 ?_
  by_cases c : (g.ok && h.ok) = true
  · simp only [if_pos c]
    rw [Bool.and_eq_true] at c
    exact Ev.bind (impl_redM c.1) (Ev.bind (impl_redM c.2) (Ev.now _))
  · simp only [if_neg c]; exact Ev.now _
theorem spec_samX (g h : M4) : Ev (fun k => spec_AreSameMatrices.f k g.a g.b g.c g.d h.a h.b h.c h.d) (samX g h) := by
  unfold spec_AreSameMatrices.f samX
  refine Ev.bind (spec_l04Is_ev g.a g.b g.c g.d) ?_
  have no : Ev (fun k => spec_AreSameMatrices.j0 k true g.a g.b g.c g.d h.a h.b h.c h.d) (false, 1) := Ev.up (by simp only [spec_AreSameMatrices.j0, if_true]; exact Ev.now _)
  cases c : matB g.a g.b g.c g.d with
  | false =>
    rw [show g.ok = false from c]
    simp only [Bool.false_and, Bool.false_eq_true, if_false]
    exact no
  | true =>
    rw [show g.ok = true from c]
    simp only [Bool.true_and, if_true]
    refine Ev.bind (spec_l04Is_ev h.a h.b h.c h.d) ?_
    cases c2 : matB h.a h.b h.c h.d with
    | false =>
      rw [show h.ok = false from c2]
      simp only [Bool.false_eq_true, if_false]
      exact no
    | true =>
      rw [show h.ok = true from c2]
      simp only [if_true]
      refine Ev.up ?_
      obtain ⟨f1, hf1⟩ := spec_redM (g := g) c
      obtain ⟨f2, hf2⟩ := spec_redM (g := h) c2
      simp only [spec_AreSameMatrices.j0, Bool.not_true, Bool.false_eq_true, if_false]
      exact Ev.bind hf1 (Ev.bind hf2 (Ev.now _))
theorem mulX_zero {g h : M4} (e : (mulX g h).2 = 0) : g.ok = true ∧ h.ok = true ∧ (mulX g h).1 = (g.mul h).red ∧ (g.mul h).red.ok = true := by
  unfold mulX at e ⊢
  by_cases c : (g.ok && h.ok) = true
  · rw [if_pos c] at e ⊢
    rw [Bool.and_eq_true] at c
    by_cases c2 : (g.mul h).red.ok = true
    · rw [if_pos c2]; exact ⟨c.1, c.2, rfl, c2⟩
    · rw [if_neg c2] at e; simp at e
  · rw [if_neg c] at e; simp at e
theorem mulX_none {g h : M4} (e : (mulX g h).2 ≠ 0) : (mulX g h).1 = M4.z := by
  unfold mulX at e ⊢
  by_cases c : (g.ok && h.ok) = true
  · rw [if_pos c] at e ⊢
    by_cases c2 : (g.mul h).red.ok = true
    · rw [if_pos c2] at e; simp at e
    · rw [if_neg c2]
  · rw [if_neg c]
theorem j3_ok (g h : M4) : Ev (fun k => laws_FnMatrices.j3 k (mulX g h).2 g.a g.b g.c g.d h.a h.b h.c h.d (mulX g h).1.a (mulX g h).1.b (mulX g h).1.c (mulX g h).1.d) true := by
  refine Ev.up ?_
  simp only [laws_FnMatrices.j3]
  by_cases c : (mulX g h).2 = 0
  · simp only [if_pos c]
    obtain ⟨o1, o2, e1, o3⟩ := mulX_zero c
    have d1 := M4.ok_det o1
    have d2 := M4.ok_det o2
    refine Ev.bind (impl_mulX (mulX g h).1 g) (Ev.bind (impl_mulX h g) (Ev.bind (impl_mulX g (mulX h g).1) ?_))
    by_cases c1 : (mulX (mulX g h).1 g).2 = 0
    · by_cases c2 : (mulX h g).2 = 0
      · by_cases c3 : (mulX g (mulX h g).1).2 = 0
        · simp only [if_pos c1, if_pos c2, if_pos c3]
          obtain ⟨_, _, f1, _⟩ := mulX_zero c1
          obtain ⟨_, _, f2, _⟩ := mulX_zero c2
          obtain ⟨_, _, f3, _⟩ := mulX_zero c3
          have e : (mulX (mulX g h).1 g).1 = (mulX g (mulX h g).1).1 := by
            rw [f1, f3, f2, e1, M4.red_mul_left (by rw [M4.det_mul]; exact Int.mul_ne_zero d1 d2) d1, M4.red_mul_red d1 (by rw [M4.det_mul]; exact Int.mul_ne_zero d2 d1), M4.mul_assoc]
          rw [e]
          simp only [beq_self_eq_true, Bool.and_self]
          exact Ev.now _
        · simp only [if_pos c1, if_pos c2, if_neg c3]; exact Ev.now _
      · simp only [if_pos c1, if_neg c2]; exact Ev.now _
    · simp only [if_neg c1]; exact Ev.now _
  · simp only [if_neg c]
    rw [mulX_none c]
    exact Ev.now _
theorem power_zero {a b c d n : Int} (h : (powerW a b c d n).2.2.2.2 = 0) : (M4.mk a b c d).ok = true ∧ -20 ≤ n ∧ n ≤ 20 := by
  unfold powerW at h
  by_cases c1 : matB a b c d = true
  · rw [if_pos c1] at h
    by_cases c2 : n < -20 ∨ 20 < n
    · rw [if_pos c2] at h; simp at h
    · exact ⟨c1, by omega, by omega⟩
  · rw [if_neg c1] at h; simp at h
theorem j2_ok (g h z : M4) (n : Int) (b : Bool) (hb : b = true → (powerW z.a z.b z.c z.d n).2.2.2.2 = 0 ∧ n < 20) : Ev (fun k => laws_FnMatrices.j2 k (mulX g h).2 n b g.a g.b g.c g.d h.a h.b h.c h.d (mulX g h).1.a (mulX g h).1.b (mulX g h).1.c (mulX g h).1.d z.a z.b z.c z.d (powerW z.a z.b z.c z.d n).1 (powerW z.a z.b z.c z.d n).2.1 (powerW z.a z.b z.c z.d n).2.2.1 (powerW z.a z.b z.c z.d n).2.2.2.1) true := by
  refine Ev.up ?_
  have h3 := j3_ok g h
  cases b with
  | false => simp only [laws_FnMatrices.j2, Bool.false_eq_true, if_false]; exact h3
  | true =>
    obtain ⟨hc, hn⟩ := hb rfl
    obtain ⟨ho, n1, n2⟩ := power_zero hc
    simp only [laws_FnMatrices.j2, if_true]
    rw [wid (n := n + 1) (by omega) (by omega)]
    obtain ⟨P, hP⟩ : ∃ P : M4, P = ⟨(powerW z.a z.b z.c z.d n).1, (powerW z.a z.b z.c z.d n).2.1, (powerW z.a z.b z.c z.d n).2.2.1, (powerW z.a z.b z.c z.d n).2.2.2.1⟩ := ⟨_, rfl⟩
    have hPw : powerW z.a z.b z.c z.d n = (P.a, P.b, P.c, P.d, 0) := by rw [hP, ← hc]
    rw [hPw]
    refine Ev.bind (impl_PowerMatrix_ev z.a z.b z.c z.d (n + 1)) (Ev.bind (impl_mulX P z) ?_)
    by_cases c1 : (powerW z.a z.b z.c z.d (n + 1)).2.2.2.2 = 0
    · by_cases c2 : (mulX P z).2 = 0
      · simp only [if_pos c1, if_pos c2]
        obtain ⟨N, hN⟩ : ∃ N : M4, N = ⟨(powerW z.a z.b z.c z.d (n + 1)).1, (powerW z.a z.b z.c z.d (n + 1)).2.1, (powerW z.a z.b z.c z.d (n + 1)).2.2.1, (powerW z.a z.b z.c z.d (n + 1)).2.2.2.1⟩ := ⟨_, rfl⟩
        have hNw : powerW z.a z.b z.c z.d (n + 1) = (N.a, N.b, N.c, N.d, 0) := by rw [hN, ← c1]
        obtain ⟨_, e⟩ := power_next (a := z.a) (b := z.b) (c := z.c) (d := z.d) ho hn hPw hNw
        obtain ⟨_, _, f, _⟩ := mulX_zero (show (mulX P z).2 = 0 from c2)
        have e2 : (mulX P z).1 = N := f.trans e
        rw [hNw]
        simp only [e2, beq_self_eq_true, Bool.not_true, Bool.or_self, Bool.false_eq_true, if_false]
        exact h3
      · simp only [if_pos c1, if_neg c2]; exact h3
    · simp only [if_neg c1]; exact h3
theorem j1_ok (g h z : M4) (n : Int) : Ev (fun k => laws_FnMatrices.j1 k (mulX g h).2 n (powerW z.a z.b z.c z.d n).2.2.2.2 g.a g.b g.c g.d h.a h.b h.c h.d (mulX g h).1.a (mulX g h).1.b (mulX g h).1.c (mulX g h).1.d z.a z.b z.c z.d (powerW z.a z.b z.c z.d n).1 (powerW z.a z.b z.c z.d n).2.1 (powerW z.a z.b z.c z.d n).2.2.1 (powerW z.a z.b z.c z.d n).2.2.2.1) true := by
  refine Ev.up ?_
  simp only [laws_FnMatrices.j1]
  by_cases c : (powerW z.a z.b z.c z.d n).2.2.2.2 = 0
  · simp only [if_pos c]
    exact j2_ok g h z n _ (fun hd => ⟨c, of_decide_eq_true hd⟩)
  · simp only [if_neg c]
    exact j2_ok g h z n _ (fun hd => by cases hd)
theorem j0_ok (g h y z : M4) (n : Int) : Ev (fun k => laws_FnMatrices.j0 k (mulX g h).2 (invX y).2 n (powerW z.a z.b z.c z.d n).2.2.2.2 g.a g.b g.c g.d h.a h.b h.c h.d (mulX g h).1.a (mulX g h).1.b (mulX g h).1.c (mulX g h).1.d y.a y.b y.c y.d (invX y).1.a (invX y).1.b (invX y).1.c (invX y).1.d z.a z.b z.c z.d (powerW z.a z.b z.c z.d n).1 (powerW z.a z.b z.c z.d n).2.1 (powerW z.a z.b z.c z.d n).2.2.1 (powerW z.a z.b z.c z.d n).2.2.2.1) true := by
  refine Ev.up ?_
  simp only [laws_FnMatrices.j0]
  have h1 := j1_ok g h z n
  by_cases c : y.ok = true
  · have e : invX y = (y.adj.red, 0) := by unfold invX; rw [if_pos c]
    have d := M4.ok_det c
    have oa : y.adj.red.ok = true := M4.red_ok (adj_ok c)
    have e1 : mulX y y.adj.red = (M4.one, 0) := by
      unfold mulX
      rw [c, oa, M4.mul_inv d]
      rfl
    have e2 : invX y.adj.red = (y.red, 0) := by unfold invX; rw [if_pos oa, M4.inv_inv d]
    have e3 : redX y = (y.red, 0) := by unfold redX; rw [if_pos c]
    rw [e]
    simp only [if_true]
    refine Ev.bind (impl_mulX y y.adj.red) (Ev.bind (impl_invX y.adj.red) (Ev.bind (impl_redX y) ?_))
    rw [e1, e2, e3]
    simp only [M4.one, if_true, beq_self_eq_true, Bool.not_true, Bool.or_self, Bool.false_eq_true, if_false]
    exact h1
  · have e : (invX y).2 = 1 := by unfold invX; rw [if_neg c]
    simp only [if_neg (show ¬ (invX y).2 = 0 by omega)]
    exact h1
theorem FnMatrices : laws_FnMatrices.Pure := by
  intro C hmax _ hwf
  refine Ev.rounds ?_
  unfold laws_FnMatrices.f
  simp only [laws_big.f, Option.bind_some]
  by_cases hbig : (C.length : Int) > 4096
  · simp only [decide_eq_true hbig, if_true]; exact Ev.now _
  simp only [decide_eq_false hbig, Bool.false_eq_true, if_false]
  have hb : ∀ x ∈ C, 0 ≤ x ∧ x ≤ 255 := fun x hx => by
    have := hwf x hx
    simp only [Lit.wf, Bool.and_eq_true, decide_eq_true_eq] at this
    exact this
  have hl : C.length ≤ 5000 := by omega
  obtain ⟨g, h, hd1⟩ := drawMul_ok hb hl
  obtain ⟨x, hd2⟩ := drawRed_ok hb hl
  obtain ⟨y, hd3⟩ := drawInv_ok hb hl
  obtain ⟨z, n, hd4⟩ := drawPow_ok hb hl
  obtain ⟨a, b, hd5⟩ := drawSame_ok hb hl
  refine Ev.bind hd1 (Ev.bind (impl_mulX g h) (Ev.bind (spec_mulX g h) ?_))
  simp only [if_true, beq_self_eq_true, Bool.not_true, Bool.or_self, Bool.false_eq_true, if_false]
  refine Ev.bind (impl_IsMatrix_ev g.a g.b g.c g.d) (Ev.bind (show Ev (fun k => spec_IsMatrix.f k g.a g.b g.c g.d) (matB g.a g.b g.c g.d) from Ev.bind (spec_l04Is_ev _ _ _ _) (Ev.now _)) ?_)
  simp only [bne_self_eq_false, Bool.false_eq_true, if_false]
  refine Ev.bind hd2 (Ev.bind (impl_redX x) (Ev.bind (spec_redX x) ?_))
  simp only [if_true, beq_self_eq_true, Bool.not_true, Bool.or_self, Bool.false_eq_true, if_false]
  refine Ev.bind hd3 (Ev.bind (impl_invX y) (Ev.bind (spec_invX y) ?_))
  simp only [if_true, beq_self_eq_true, Bool.not_true, Bool.or_self, Bool.false_eq_true, if_false]
  refine Ev.bind hd4 (Ev.bind (impl_PowerMatrix_ev z.a z.b z.c z.d n) (Ev.bind (spec_PowerMatrix_ev z.a z.b z.c z.d n) ?_))
  simp only [if_true, beq_self_eq_true, Bool.not_true, Bool.or_self, Bool.false_eq_true, if_false]
  refine Ev.bind hd5 (Ev.bind (impl_samX a b) (Ev.bind (spec_samX a b) ?_))
  simp only [if_true, bne_self_eq_false, Bool.false_eq_true, if_false]
  have last := j0_ok g h y z n
  by_cases c : x.ok = true
  · have e : redX x = (x.red, 0) := by unfold redX; rw [if_pos c]
    have o := M4.red_ok c
    have es : samX x x.red = (true, 0) := by
      unfold samX
      rw [c, o, M4.red_red (M4.ok_det c)]
      simp [sameB]
    rw [e]
    simp only [if_true]
    refine Ev.bind (impl_samX x x.red) ?_
    rw [es]
    simp only [if_true]
    refine Ev.bind (impl_IsMatrix_ev x.red.a x.red.b x.red.c x.red.d) ?_
    rw [show matB x.red.a x.red.b x.red.c x.red.d = true from o]
    simp only [if_true]
    exact last
  · have e : redX x = (M4.z, 1) := by unfold redX; rw [if_neg c]
    rw [e]
    simp only [if_neg (show ¬ (1 : Int) = 0 by decide)]
    exact last

end Go.Proofs.Yteniblbnmcfmjaa.Pure
