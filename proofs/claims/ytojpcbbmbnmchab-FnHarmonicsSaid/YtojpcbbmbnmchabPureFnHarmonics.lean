/- For every list of bytes, what FnHarmonics draws of it meets the law: potentials have their flow as differences and are harmonic just if it keeps the rule, and neighbour sums of sphere sums are sums of sphere sums; no condition beyond the row's. -/
import Derived.Test.YtojpcbbmbnmchabQHx51
import Derived.Test.YtojpcbbmbnmchabWSized
namespace Go.Proofs.Ytojpcbbmbnmchab.PrintWords
open Go.ChangeShapes Go.WideShapes
/-- The name by which the printed row calls the word. -/
theorem sized_ints {H : Type} {enc : TypeId × Value → H} {P : Program} {W : World} {base : Nat} {spare : Nat → Bool} {held : Bool} {t e : TypeId} {k : IntKind} {a : Option Addr} {len cap : Nat} {d : DataW H} {ps : List MemPlace} {ts : List TypeId} {ds : List (DataW H)} {j : Nat}
    (hsz : (DataW.weightsEach P ts ds).all (· ≤ reachBytes) = true) (ht : ts[j]? = some t) (hd : ds[j]? = some d) (hu : P.underlying t = some (.slice e)) (he : P.underlying e = some (.int k)) (hc : P.cellsOf e = 1) {B : Nat} (hB : P.bytesOf e = B)
    (h : DataW.Trod enc P W base spare held t (.slice a len cap) d ps) : len * B ≤ 140737488351232 :=
  Go.Proofs.YtojpcbbmbnmchabW.PrintWords.sized_ints hsz ht hd hu he hc hB h
end Go.Proofs.Ytojpcbbmbnmchab.PrintWords
namespace Go.Proofs.Ytojpcbbmbnmchab.Pure
open Go.RowKit Go.Proofs.Ytojpcbbmbnmchab.QH Go.Proofs.YtojpcbbmbnmchabW.PrintWords Go.Proofs.YtojpcbbmbnmchabW.PrintLast
set_option linter.unusedVariables false
set_option linter.unusedSimpArgs false
set_option linter.unusedSectionVars false

theorem wid {n : Int} (h0 : -9223372036854775808 ≤ n) (h1 : n ≤ 9223372036854775807) : wrap64 n = n := by unfold wrap64; omega
theorem Ev.bindv {α β : Type} {o : Option α} {f : Nat → α → Option β} {a : α} {r : β} (h : o = some a) (k : Ev (fun n => f n a) r) : Ev (fun n => o.bind (f n)) r := by
  subst h; exact k

def primeB (p : Int) : Bool := p == 2 || (p == 3 || (p == 5 || p == 7))
theorem prime_cases {p : Int} (h : primeB p = true) : p = 2 ∨ p = 3 ∨ p = 5 ∨ p = 7 := by
  simpa [primeB] using h
theorem prime_lo {p : Int} (h : primeB p = true) : 2 ≤ p := by rcases prime_cases h with h | h | h | h <;> omega
theorem prime_hi {p : Int} (h : primeB p = true) : p ≤ 7 := by rcases prime_cases h with h | h | h | h <;> omega

theorem ipow_pos {p : Int} (hp : 1 ≤ p) (n : Nat) : (1 : Int) ≤ p ^ n := by
  have := Int.pow_pos (n := p) (m := n) (by omega)
  omega
theorem ipow_mono {p : Int} (hp : 1 ≤ p) {m n : Nat} (h : m ≤ n) : p ^ m ≤ p ^ n := by
  obtain ⟨d, rfl⟩ : ∃ d, n = m + d := ⟨n - m, by omega⟩
  rw [Int.pow_add]
  have h1 := ipow_pos hp m
  have h2 := ipow_pos hp d
  have := Int.mul_le_mul_of_nonneg_left h2 (show 0 ≤ p ^ m by omega)
  rwa [Int.mul_one] at this
theorem pow_6 {p : Int} (hp : primeB p = true) (n : Nat) (h : n ≤ 6) : p ^ n ≤ 117649 := by
  have hp2 := prime_lo hp
  have h1 : p ^ n ≤ p ^ 6 := ipow_mono (by omega) h
  have h2 : p ^ 6 ≤ 117649 := by rcases prime_cases hp with rfl | rfl | rfl | rfl <;> decide
  omega

theorem Ev.up {α : Type} {g : Nat → Option α} {r : α} (h : Ev (fun k => g (k + 1)) r) : Ev g r := Ev.step (f := fun k => g (k + 1)) (fun _ => rfl) h

theorem tmod_cast {a m : Int} (h : 0 ≤ a) : Int.tmod a m = a % m := Int.tmod_eq_emod_of_nonneg h
theorem tdiv_cast {a m : Int} (h : 0 ≤ a) : Int.tdiv a m = a / m := Int.tdiv_eq_ediv_of_nonneg h
def sz (p : Int) : Nat → Int
  | 0 => 1
  | n + 1 => p * sz p n + 2
theorem sz_sph (p : Int) (n : Nat) : sz p (n + 1) = sz p n + (p + 1) * p ^ n := by
  have h : ∀ n : Nat, (p - 1) * sz p n + 2 = (p + 1) * p ^ n := by
    intro n
    induction n with
    | zero => simp [sz]; omega
    | succ n ih =>
      have e : (p - 1) * sz p (n + 1) + 2 = p * ((p - 1) * sz p n + 2) := by simp only [sz]; grind
      rw [e, ih, Int.pow_succ]; grind
  have := h n
  simp only [sz]
  grind
theorem sz_bd {p : Int} (hp : primeB p = true) {n : Nat} (hn : n ≤ 4) : 1 ≤ sz p n ∧ sz p n ≤ 3201 := by
  have h : n = 0 ∨ n = 1 ∨ n = 2 ∨ n = 3 ∨ n = 4 := by omega
  rcases prime_cases hp with rfl | rfl | rfl | rfl <;> rcases h with rfl | rfl | rfl | rfl | rfl <;> simp [sz]
theorem sz_pos {p : Int} (hp : 2 ≤ p) (n : Nat) : 1 ≤ sz p n := by
  induction n with
  | zero => simp [sz]
  | succ n ih => simp only [sz]; have := Int.mul_le_mul hp ih (by omega) (by omega); omega
theorem sz_mono {p : Int} (hp : 2 ≤ p) {m n : Nat} (h : m ≤ n) : sz p m ≤ sz p n := by
  induction n with
  | zero => have : m = 0 := by omega
            subst this; exact Int.le_refl _
  | succ n ih =>
    rcases Nat.lt_or_ge n m with h1 | h1
    · have : m = n + 1 := by omega
      subst this; exact Int.le_refl _
    · have h2 := ih h1
      have h3 := sz_pos hp n
      have h4 := Int.mul_le_mul_of_nonneg_right hp (show 0 ≤ sz p n by omega)
      simp only [sz]; omega
theorem sph_bd {p : Int} (hp : primeB p = true) {n : Nat} (hn : n ≤ 5) : 1 ≤ (p + 1) * p ^ n ∧ (p + 1) * p ^ n ≤ 941192 := by
  have hp2 := prime_lo hp
  have hp7 := prime_hi hp
  have h1 := pow_6 hp n (by omega)
  have h2 := ipow_pos (p := p) (by omega) n
  have h3 := Int.mul_le_mul (show p + 1 ≤ 8 by omega) h1 (by omega) (by omega)
  have h4 := Int.mul_le_mul (show 1 ≤ p + 1 by omega) h2 (by omega) (by omega)
  omega
theorem impl_size_ev {p : Int} (hp : primeB p = true) {n : Nat} (hn : n ≤ 4) : Ev (fun k => impl_regionSize.f k p n) (sz p n) := by
  have hp2 := prime_lo hp
  have hp7 := prime_hi hp
  have key : ∀ d i : Nat, i + d = n → Ev (fun k => impl_regionSize.l0 k p (sz p i) ((p + 1) * p ^ i) n i) (sz p n) := by
    intro d
    induction d with
    | zero =>
      intro i hi
      obtain rfl : i = n := by omega
      refine Ev.up ?_
      simp only [impl_regionSize.l0, if_neg (show ¬ (i : Int) < (i : Int) by omega)]; exact Ev.now _
    | succ d ih =>
      intro i hi
      have h1 := sz_bd hp (n := i + 1) (by omega)
      have h2 := sph_bd hp (n := i + 1) (by omega)
      have e1 := sz_sph p i
      have e2 : (p + 1) * p ^ i * p = (p + 1) * p ^ (i + 1) := by rw [Int.pow_succ, Int.mul_assoc]
      refine Ev.up ?_
      simp only [impl_regionSize.l0, if_pos (show (i : Int) < (n : Int) by omega)]
      rw [wid (n := sz p i + (p + 1) * p ^ i) (by omega) (by omega), wid (n := (p + 1) * p ^ i * p) (by omega) (by omega), wid (n := (i : Int) + 1) (by omega) (by omega), ← e1, e2]
      exact ih (i + 1) (by omega)
  unfold impl_regionSize.f
  rw [wid (n := p + 1) (by omega) (by omega)]
  have := key n 0 (by omega)
  rw [Int.pow_zero, Int.mul_one] at this
  exact this
theorem spec_size_ev {p : Int} (hp : primeB p = true) {n : Nat} (hn : n ≤ 4) : Ev (fun k => spec_l07Size.f k p n) (sz p n) := by
  have hp2 := prime_lo hp
  have hp7 := prime_hi hp
  have key : ∀ d i : Nat, i + d = n → Ev (fun k => spec_l07Size.l0 k p d (sz p i) ((p + 1) * p ^ i)) (sz p n) := by
    intro d
    induction d with
    | zero =>
      intro i hi
      obtain rfl : i = n := by omega
      refine Ev.up ?_
      simp only [spec_l07Size.l0, if_neg (show ¬ ((0 : Nat) : Int) > 0 by omega)]; exact Ev.now _
    | succ d ih =>
      intro i hi
      have h1 := sz_bd hp (n := i + 1) (by omega)
      have h2 := sph_bd hp (n := i + 1) (by omega)
      have e1 := sz_sph p i
      have e2 : (p + 1) * p ^ i * p = (p + 1) * p ^ (i + 1) := by rw [Int.pow_succ, Int.mul_assoc]
      refine Ev.up ?_
      simp only [spec_l07Size.l0, if_pos (show ((d + 1 : Nat) : Int) > 0 by omega)]
      rw [wid (n := sz p i + (p + 1) * p ^ i) (by omega) (by omega), wid (n := (p + 1) * p ^ i * p) (by omega) (by omega), wid (n := ((d + 1 : Nat) : Int) - 1) (by omega) (by omega), ← e1, e2, show ((d + 1 : Nat) : Int) - 1 = (d : Int) from by omega]
      exact ih (i + 1) (by omega)
  unfold spec_l07Size.f
  rw [wid (n := p + 1) (by omega) (by omega)]
  have := key n 0 (by omega)
  rw [Int.pow_zero, Int.mul_one] at this
  exact this
def par (p i : Int) : Int := if i ≤ p + 1 then 0 else (i - p - 2) / p + 1
def fch (p i : Int) : Int := if i = 0 then 1 else p + 2 + (i - 1) * p
def cnt (p i : Int) : Nat := if i = 0 then (p + 1).toNat else p.toNat
theorem par_lt {p i : Int} (hp : 2 ≤ p) (hi : 1 ≤ i) : 0 ≤ par p i ∧ par p i < i := by
  unfold par
  by_cases h : i ≤ p + 1
  · rw [if_pos h]; omega
  · rw [if_neg h]
    have h1 := Int.ediv_nonneg (show 0 ≤ i - p - 2 by omega) (show 0 ≤ p by omega)
    have h2 := Int.ediv_le_self p (show 0 ≤ i - p - 2 by omega)
    omega
theorem par_child {p i : Int} {j : Nat} (hp : 2 ≤ p) (hi : 0 ≤ i) (hj : j < cnt p i) : par p (fch p i + j) = i := by
  unfold par fch
  unfold cnt at hj
  by_cases h : i = 0
  · rw [if_pos h] at hj ⊢
    rw [if_pos (by omega)]; exact h.symm
  · rw [if_neg h] at hj ⊢
    have h1 := Int.mul_nonneg (show 0 ≤ i - 1 by omega) (show 0 ≤ p by omega)
    rw [if_neg (by omega)]
    have e : p + 2 + (i - 1) * p + (j : Int) - p - 2 = (j : Int) + (i - 1) * p := by omega
    rw [e, Int.add_mul_ediv_right _ _ (by omega), Int.ediv_eq_zero_of_lt (by omega) (by omega)]
    omega
theorem child_lt {p i : Int} {j m : Nat} (hp : 2 ≤ p) (hi : 0 ≤ i) (hm : i < sz p m) (hj : j < cnt p i) : 1 ≤ fch p i + j ∧ fch p i + j < sz p (m + 1) := by
  unfold fch
  unfold cnt at hj
  have h0 := sz_pos hp m
  simp only [sz]
  have h2 := Int.mul_le_mul_of_nonneg_left (show i + 1 ≤ sz p m by omega) (show 0 ≤ p by omega)
  by_cases h : i = 0
  · rw [if_pos h] at hj ⊢
    subst h
    omega
  · rw [if_neg h] at hj ⊢
    have h1 := Int.mul_nonneg (show 0 ≤ i - 1 by omega) (show 0 ≤ p by omega)
    have e : (i - 1) * p = p * (i + 1) - 2 * p := by grind
    omega
theorem cnt_le {p : Int} (hp7 : p ≤ 7) (i : Int) : cnt p i ≤ 8 := by unfold cnt; split <;> omega
theorem impl_parent_eq {p i : Int} (hp : primeB p = true) (h0 : 0 ≤ i) (h1 : i ≤ 1000000) : impl_parentPlace.f p i = some (par p i) := by
  have hp2 := prime_lo hp
  have hp7 := prime_hi hp
  unfold impl_parentPlace.f par
  rw [wid (n := p + 1) (by omega) (by omega)]
  by_cases h : i ≤ p + 1
  · rw [if_pos h, if_pos h]
  · rw [if_neg h, if_neg h, if_neg (by omega)]
    have h2 := Int.ediv_nonneg (show 0 ≤ i - p - 2 by omega) (show 0 ≤ p by omega)
    have h3 := Int.ediv_le_self p (show 0 ≤ i - p - 2 by omega)
    rw [wid (n := i - p) (by omega) (by omega), wid (n := i - p - 2) (by omega) (by omega), tdiv_cast (show 0 ≤ i - p - 2 by omega), wid (n := (i - p - 2) / p) (by omega) (by omega), wid (n := (i - p - 2) / p + 1) (by omega) (by omega)]
theorem spec_parent_eq {p i : Int} (hp : primeB p = true) (h0 : 0 ≤ i) (h1 : i ≤ 1000000) : spec_l07Parent.f p i = some (par p i) := by
  have hp2 := prime_lo hp
  have hp7 := prime_hi hp
  unfold spec_l07Parent.f par
  rw [wid (n := p + 1) (by omega) (by omega)]
  by_cases h : i ≤ p + 1
  · rw [if_pos h, if_pos h]
  · rw [if_neg h, if_neg h, if_neg (by omega)]
    have h2 := Int.ediv_nonneg (show 0 ≤ i - p - 2 by omega) (show 0 ≤ p by omega)
    have h3 := Int.ediv_le_self p (show 0 ≤ i - p - 2 by omega)
    rw [wid (n := i - p) (by omega) (by omega), wid (n := i - p - 2) (by omega) (by omega), tdiv_cast (show 0 ≤ i - p - 2 by omega), wid (n := (i - p - 2) / p) (by omega) (by omega), wid (n := (i - p - 2) / p + 1) (by omega) (by omega)]
theorem fch_w {p i : Int} (hp : primeB p = true) (h0 : 0 ≤ i) (h1 : i ≤ 1000000) : 0 ≤ (i - 1 + 1) * p ∧ (i - 1 + 1) * p ≤ 7000000 := by
  have hp2 := prime_lo hp
  have hp7 := prime_hi hp
  have h2 := Int.mul_nonneg h0 (show 0 ≤ p by omega)
  have h3 := Int.mul_le_mul h1 hp7 (by omega) (by omega)
  rw [show i - 1 + 1 = i from by omega]; omega
theorem impl_first_eq {p i : Int} (hp : primeB p = true) (h0 : 0 ≤ i) (h1 : i ≤ 1000000) : impl_firstChild.f p i = some (fch p i) ∧ 1 ≤ fch p i ∧ fch p i ≤ 8000000 := by
  have hp2 := prime_lo hp
  have hp7 := prime_hi hp
  have hw := fch_w hp h0 h1
  rw [Int.add_mul, Int.one_mul] at hw
  unfold impl_firstChild.f fch
  by_cases h : i = 0
  · rw [if_pos h, if_pos h]; exact ⟨rfl, by omega, by omega⟩
  · have h2 := Int.mul_nonneg (show 0 ≤ i - 1 by omega) (show 0 ≤ p by omega)
    rw [if_neg h, if_neg h, wid (n := i - 1) (by omega) (by omega), wid (n := (i - 1) * p) (by omega) (by omega), wid (n := p + 2) (by omega) (by omega), wid (n := p + 2 + (i - 1) * p) (by omega) (by omega)]
    exact ⟨rfl, by omega, by omega⟩
theorem spec_child_eq {p i : Int} (hp : primeB p = true) (h0 : 0 ≤ i) (h1 : i ≤ 1000000) : spec_l07Child.f p i = some (fch p i, (cnt p i : Int)) := by
  have hp2 := prime_lo hp
  have hp7 := prime_hi hp
  have hw := fch_w hp h0 h1
  rw [Int.add_mul, Int.one_mul] at hw
  unfold spec_l07Child.f fch cnt
  by_cases h : i = 0
  · rw [if_pos h, if_pos h, if_pos h, wid (n := p + 1) (by omega) (by omega), Int.toNat_of_nonneg (by omega)]
  · have h2 := Int.mul_nonneg (show 0 ≤ i - 1 by omega) (show 0 ≤ p by omega)
    rw [if_neg h, if_neg h, if_neg h, wid (n := i - 1) (by omega) (by omega), wid (n := (i - 1) * p) (by omega) (by omega), wid (n := p + 2) (by omega) (by omega), wid (n := p + 2 + (i - 1) * p) (by omega) (by omega), Int.toNat_of_nonneg (by omega)]
def chs (p i : Int) : List Int := (List.range (cnt p i)).map (fun (j : Nat) => fch p i + (j : Int))
theorem chs_len (p i : Int) : (chs p i).length = cnt p i := by simp [chs]
theorem chs_rd {p i : Int} {j : Nat} (hj : j < cnt p i) : rd (chs p i) (j : Int) = fch p i + j := by
  unfold rd
  rw [Int.toNat_natCast, List.getD_eq_getElem?_getD]
  unfold chs
  rw [List.getElem?_map, List.getElem?_range hj]; rfl
theorem impl_childs_ev {p i : Int} (hp : primeB p = true) (h0 : 0 ≤ i) (h1 : i ≤ 1000000) : Ev (fun k => impl_childPlaces.f k p i) (chs p i) := by
  have hp2 := prime_lo hp
  have hp7 := prime_hi hp
  obtain ⟨e, f1, f2⟩ := impl_first_eq hp h0 h1
  have hc := cnt_le hp7 i
  have key : ∀ d j : Nat, j + d = cnt p i → Ev (fun k => impl_childPlaces.l0 k p i ((List.range j).map (fun (q : Nat) => fch p i + (q : Int))) (cnt p i) j) (chs p i) := by
    intro d
    induction d with
    | zero =>
      intro j hj
      obtain rfl : j = cnt p i := by omega
      refine Ev.up ?_
      simp only [impl_childPlaces.l0, if_neg (show ¬ ((cnt p i : Nat) : Int) < ((cnt p i : Nat) : Int) by omega)]; exact Ev.now _
    | succ d ih =>
      intro j hj
      refine Ev.up ?_
      simp only [impl_childPlaces.l0, if_pos (show (j : Int) < ((cnt p i : Nat) : Int) by omega)]
      refine Ev.bindv e ?_
      simp only [List.length_map, List.length_range, if_pos (show j < 17592186044416 by omega)]
      rw [wid (n := fch p i + (j : Int)) (by omega) (by omega), wid (n := (j : Int) + 1) (by omega) (by omega)]
      have := ih (j + 1) (by omega)
      rw [List.range_succ, List.map_append] at this
      exact this
  have k0 := key (cnt p i) 0 (by omega)
  unfold impl_childPlaces.f
  by_cases h : i = 0
  · simp only [if_pos h]
    have ec : ((cnt p i : Nat) : Int) = p + 1 := by unfold cnt; rw [if_pos h]; omega
    rw [ec] at k0
    rw [wid (n := p + 1) (by omega) (by omega)]
    exact Ev.up k0
  · simp only [if_neg h]
    have ec : ((cnt p i : Nat) : Int) = p := by unfold cnt; rw [if_neg h]; omega
    rw [ec] at k0
    exact Ev.up k0
def sumF (g : Nat → Int) : Nat → Int
  | 0 => 0
  | n + 1 => sumF g n + g n
theorem sumF_bd {g : Nat → Int} {M : Int} {n : Nat} (h : ∀ j, j < n → -M ≤ g j ∧ g j ≤ M) : -(n * M) ≤ sumF g n ∧ sumF g n ≤ n * M := by
  induction n with
  | zero => simp [sumF]
  | succ n ih =>
    have h1 := ih (fun j hj => h j (by omega))
    have h2 := h n (by omega)
    have e : ((n + 1 : Nat) : Int) * M = n * M + M := by rw [Int.natCast_add, Int.add_mul]; simp
    rw [e]; simp only [sumF]; omega
theorem sumF_congr {g h : Nat → Int} {n : Nat} (e : ∀ j, j < n → g j = h j) : sumF g n = sumF h n := by
  induction n with
  | zero => rfl
  | succ n ih => simp only [sumF]; rw [ih (fun j hj => e j (by omega)), e n (by omega)]
theorem sumF_add (g h : Nat → Int) (n : Nat) : sumF (fun j => g j + h j) n = sumF g n + sumF h n := by
  induction n with
  | zero => rfl
  | succ n ih => simp only [sumF]; rw [ih]; omega
theorem sumF_sub (g h : Nat → Int) (n : Nat) : sumF (fun j => g j - h j) n = sumF g n - sumF h n := by
  induction n with
  | zero => rfl
  | succ n ih => simp only [sumF]; rw [ih]; omega
theorem sumF_const (c : Int) (n : Nat) : sumF (fun _ => c) n = n * c := by
  induction n with
  | zero => simp [sumF]
  | succ n ih => simp only [sumF]; rw [ih, Int.natCast_add, Int.add_mul]; simp
theorem sumF_but (g : Nat → Int) (c n : Nat) : sumF (fun j => if j = c then 0 else g j) n = sumF g n - (if c < n then g c else 0) := by
  induction n with
  | zero => simp [sumF]
  | succ n ih =>
    simp only [sumF]; rw [ih]
    by_cases h : n = c
    · subst h; rw [if_pos rfl, if_neg (by omega), if_pos (by omega)]; omega
    · rw [if_neg h]
      by_cases h2 : c < n
      · rw [if_pos h2, if_pos (by omega)]; omega
      · rw [if_neg h2, if_neg (by omega)]; omega

theorem rd_nat (l : List Int) (j : Nat) (h : j < l.length) : rd l (j : Int) = l[j] := by
  unfold rd; rw [Int.toNat_natCast, List.getD_eq_getElem?_getD, List.getElem?_eq_getElem h]; rfl
theorem all_ev {β : Type} (g : Nat → Int → Option β) (n : Nat) (p : Nat → Bool) (yes no : β)
    (hstep : ∀ (i : Nat), i < n → p i = true → Ev (fun k => g k ((i : Int) + 1)) yes → Ev (fun k => g k i) yes)
    (hstepno : ∀ (i : Nat), i < n → p i = true → Ev (fun k => g k ((i : Int) + 1)) no → Ev (fun k => g k i) no)
    (hno : ∀ (i : Nat), i < n → p i = false → Ev (fun k => g k i) no)
    (hend : Ev (fun k => g k n) yes) : Ev (fun k => g k 0) (if (List.range n).all p then yes else no) := by
  have key : ∀ (d i : Nat), i + d = n → Ev (fun k => g k i) (if (List.range' i d).all p then yes else no) := by
    intro d
    induction d with
    | zero => intro i hi; have : i = n := by omega
              subst this; simpa using hend
    | succ d ih =>
      intro i hi
      have h := ih (i + 1) (by omega)
      rw [List.range'_succ, List.all_cons]
      cases e : p i with
      | false => simpa using hno i (by omega) e
      | true =>
        rw [Bool.true_and]
        have e1 : (((i + 1 : Nat) : Int)) = (i : Int) + 1 := by omega
        rw [e1] at h
        cases e2 : (List.range' (i + 1) d).all p with
        | true => rw [e2] at h; exact hstep i (by omega) e h
        | false => rw [e2] at h; exact hstepno i (by omega) e h
  have := key n 0 (by omega)
  rw [← List.range_eq_range'] at this
  exact this
theorem all_range_rd (l : List Int) (q : Int → Bool) : (List.range l.length).all (fun i => q (rd l (i : Int))) = l.all q := by
  rw [Bool.eq_iff_iff]
  simp only [List.all_eq_true, List.mem_range]
  constructor
  · intro h x hx
    obtain ⟨i, hi, rfl⟩ := List.mem_iff_getElem.1 hx
    have := h i hi
    rwa [rd_nat l i hi] at this
  · intro h i hi
    rw [rd_nat l i hi]
    exact h _ (List.getElem_mem hi)
theorem all_ev' {β : Type} (g : Nat → Int → Option β) (n : Nat) (p : Nat → Bool) (yes no : β)
    (hstep : ∀ (i : Nat) (r : β), i < n → p i = true → Ev (fun k => g k ((i : Int) + 1)) r → Ev (fun k => g k i) r)
    (hno : ∀ (i : Nat), i < n → p i = false → Ev (fun k => g k i) no)
    (hend : Ev (fun k => g k n) yes) : Ev (fun k => g k 0) (if (List.range n).all p then yes else no) :=
  all_ev g n p yes no (fun i hi hp h => hstep i yes hi hp h) (fun i hi hp h => hstep i no hi hp h) hno hend
theorem ite_tf (b : Bool) : (if b then true else false) = b := by cases b <;> rfl
theorem impl_within_ev (m : Int) (l : List Int) (hm : 0 ≤ m) (hm2 : m ≤ 4611686018427387904) (hl : l.length ≤ 4611686018427387904) : Ev (fun k => impl_within.f k m l) (l.all (fun x => decide (-m ≤ x ∧ x ≤ m))) := by
  unfold impl_within.f
  rw [← ite_tf (l.all _), ← all_range_rd]
  have w : wrap64 (-m) = -m := wid (by omega) (by omega)
  refine all_ev' (fun k i => impl_within.l0 k m l l.length i) l.length (fun i => decide (-m ≤ rd l (i : Int) ∧ rd l (i : Int) ≤ m)) true false ?_ ?_ ?_
  · intro i r hi hp hr
    have hp := of_decide_eq_true hp
    refine Ev.step (f := fun k => impl_within.l0 k m l l.length ((i : Int) + 1)) (fun k => ?_) hr
    simp only [impl_within.l0]
    rw [if_pos (by omega), if_pos (by omega), if_pos (by omega), w, if_neg (by omega), if_neg (by omega), wid (by omega) (by omega)]
  · intro i hi hp
    have hp := of_decide_eq_false hp
    refine Ev.step (f := fun _ => some false) (fun k => ?_) (Ev.now _)
    simp only [impl_within.l0]
    rw [if_pos (by omega), if_pos (by omega), if_pos (by omega), w]
    by_cases h : rd l (i : Int) < -m
    · rw [if_pos h]
    · rw [if_neg h, if_pos (by omega)]
  · exact Ev.step (f := fun _ => some true) (fun k => by simp only [impl_within.l0]; rw [if_neg (by omega)]) (Ev.now _)

theorem In_eq (a b c : Int) : spec_l01In.f a b c = some (decide (b ≤ a ∧ a ≤ c)) := by
  unfold spec_l01In.f
  by_cases h : a ≥ b
  · rw [if_pos h]; congr 1; exact decide_eq_decide.2 ⟨fun h2 => ⟨h, h2⟩, fun h2 => h2.2⟩
  · rw [if_neg h]; congr 1; exact (decide_eq_false (fun h2 => h h2.1)).symm

theorem impl_isPrime_eq (p : Int) : impl_isPrime.f p = some (primeB p) := by
  unfold impl_isPrime.f primeB
  by_cases h2 : p = 2
  · simp [h2]
  · by_cases h3 : p = 3
    · simp [h3]
    · by_cases h5 : p = 5
      · simp [h5]
      · rw [if_neg h2, if_neg h3, if_neg h5, beq_eq_false_iff_ne.2 h2, beq_eq_false_iff_ne.2 h3, beq_eq_false_iff_ne.2 h5]; rfl

theorem spec_l01Prime_eq (p : Int) : spec_l01Prime.f p = some (primeB p) := by
  unfold spec_l01Prime.f primeB
  by_cases h2 : p = 2
  · simp [h2]
  · by_cases h3 : p = 3
    · simp [h3]
    · by_cases h5 : p = 5
      · simp [h5]
      · rw [if_neg h2, if_neg h3, if_neg h5, beq_eq_false_iff_ne.2 h2, beq_eq_false_iff_ne.2 h3, beq_eq_false_iff_ne.2 h5]; rfl

def inB (l : List Int) : Bool := l.all (fun x => decide (-1000000 ≤ x ∧ x ≤ 1000000))
theorem inB_rd {l : List Int} (h : inB l = true) {i : Nat} (hi : i < l.length) : -1000000 ≤ rd l (i : Int) ∧ rd l (i : Int) ≤ 1000000 := by
  rw [rd_nat l i hi]
  exact of_decide_eq_true (List.all_eq_true.1 h _ (List.getElem_mem hi))
theorem spec_values_ev {l : List Int} (hl : l.length ≤ 4611686018427387904) : Ev (fun k => spec_l07Values.f k l) (inB l) := by
  unfold spec_l07Values.f inB
  rw [← ite_tf (l.all _), ← all_range_rd]
  refine all_ev' (fun k i => spec_l07Values.l0 k l i) l.length (fun i => decide (-1000000 ≤ rd l (i : Int) ∧ rd l (i : Int) ≤ 1000000)) true false ?_ ?_ ?_
  · intro i r hi hp hr
    refine Ev.up ?_
    simp only [spec_l07Values.l0, if_pos (show (i : Int) < (l.length : Int) by omega), if_pos (show (0 : Int) ≤ (i : Int) by omega)]
    refine Ev.bindv (In_eq _ _ _) ?_
    rw [hp, wid (n := (i : Int) + 1) (by omega) (by omega)]
    simp only [if_true]; exact hr
  · intro i hi hp
    refine Ev.up ?_
    simp only [spec_l07Values.l0, if_pos (show (i : Int) < (l.length : Int) by omega), if_pos (show (0 : Int) ≤ (i : Int) by omega)]
    refine Ev.bindv (In_eq _ _ _) ?_
    rw [hp]
    simp only [Bool.false_eq_true, if_false]; exact Ev.now _
  · refine Ev.up ?_
    simp only [spec_l07Values.l0, if_neg (show ¬ (l.length : Int) < (l.length : Int) by omega)]; exact Ev.now _
theorem impl_values_ev {l : List Int} (hl : l.length ≤ 4611686018427387904) : Ev (fun k => impl_within.f k 1000000 l) (inB l) := impl_within_ev 1000000 l (by omega) (by omega) hl
def lcW (p r : Int) (l : List Int) (less : Int) : Int := if primeB p = true then (if (0 ≤ r ∧ r ≤ 4) ∧ (l.length : Int) + less = sz p r.toNat ∧ inB l = true then (if sz p r.toNat > 500 then 3 else 0) else 2) else 1
theorem lcW_ok {p r : Int} {l : List Int} {less : Int} (h : lcW p r l less = 0) : primeB p = true ∧ (0 ≤ r ∧ r ≤ 4) ∧ (l.length : Int) + less = sz p r.toNat ∧ inB l = true ∧ sz p r.toNat ≤ 500 := by
  unfold lcW at h
  by_cases h1 : primeB p = true
  · rw [if_pos h1] at h
    by_cases h2 : (0 ≤ r ∧ r ≤ 4) ∧ (l.length : Int) + less = sz p r.toNat ∧ inB l = true
    · rw [if_pos h2] at h
      by_cases h3 : sz p r.toNat > 500
      · rw [if_pos h3] at h; omega
      · exact ⟨h1, h2.1, h2.2.1, h2.2.2, by omega⟩
    · rw [if_neg h2] at h; omega
  · rw [if_neg h1] at h; omega
theorem lcW_cases (p r : Int) (l : List Int) (less : Int) : lcW p r l less = 0 ∨ lcW p r l less = 1 ∨ lcW p r l less = 2 ∨ lcW p r l less = 3 := by
  unfold lcW
  by_cases h1 : primeB p = true
  · rw [if_pos h1]
    by_cases h2 : (0 ≤ r ∧ r ≤ 4) ∧ (l.length : Int) + less = sz p r.toNat ∧ inB l = true
    · rw [if_pos h2]
      by_cases h3 : sz p r.toNat > 500
      · rw [if_pos h3]; omega
      · rw [if_neg h3]; omega
    · rw [if_neg h2]; omega
  · rw [if_neg h1]; omega
theorem lcW_of {p r : Int} {l : List Int} {less : Int} (h1 : primeB p = true) (h2 : 0 ≤ r ∧ r ≤ 4) (h3 : (l.length : Int) + less = sz p r.toNat) (h4 : inB l = true) (h5 : sz p r.toNat ≤ 500) : lcW p r l less = 0 := by
  unfold lcW; rw [if_pos h1, if_pos ⟨h2, h3, h4⟩, if_neg (by omega)]
theorem impl_listCode_ev {p r least : Int} {l : List Int} {less : Int} (hl : 0 ≤ less ∧ less ≤ 1) (h0 : 0 ≤ least) : Ev (fun k => impl_listCode.f k p r least l less) (if primeB p = true ∧ r < least then 2 else lcW p r l less) := by
  unfold impl_listCode.f
  refine Ev.bindv (impl_isPrime_eq p) ?_
  unfold lcW
  by_cases hp : primeB p = true
  · rw [hp]
    simp only [if_true, true_and]
    have j2 : Ev (fun k => impl_listCode.j0 k p r true) 2 := by refine Ev.up ?_; simp only [impl_listCode.j0, if_true]; exact Ev.now _
    by_cases hr : r < least
    · simp only [if_pos hr]; exact j2
    · simp only [if_neg hr]
      by_cases h4 : r > 4
      · simp only [if_pos h4]; rw [if_neg (by omega)]; exact j2
      · simp only [if_neg h4]
        obtain ⟨n, rfl⟩ : ∃ n : Nat, r = (n : Int) := ⟨r.toNat, by omega⟩
        have hs := sz_bd hp (n := n) (by omega)
        have es := impl_size_ev hp (n := n) (by omega)
        refine Ev.bind es ?_
        rw [Int.toNat_natCast, wid (n := sz p n - less) (by omega) (by omega)]
        by_cases hlen : (l.length : Int) + less = sz p n
        · simp only [if_pos (show (l.length : Int) = sz p n - less by omega)]
          refine Ev.bind (impl_values_ev (by omega)) ?_
          cases hv : inB l with
          | false => rw [if_neg (by simp)]; simpa using j2
          | true =>
            rw [if_pos ⟨by omega, hlen, rfl⟩]
            refine Ev.up ?_
            simp only [impl_listCode.j0, Bool.not_true, Bool.false_eq_true, if_false]
            refine Ev.bind es ?_
            by_cases h5 : sz p n > 500
            · simp only [if_pos h5]; exact Ev.now _
            · simp only [if_neg h5]; exact Ev.now _
        · simp only [if_neg (show ¬ (l.length : Int) = sz p n - less by omega)]
          rw [if_neg (fun h => hlen h.2.1)]; exact j2
  · simp only [hp, Bool.false_eq_true, if_false, false_and]; exact Ev.now _
theorem spec_l07Code_ev (p r : Int) : Ev (fun k => spec_l07Code.f k p r) (if primeB p = true then (if 0 ≤ r ∧ r ≤ 4 then (if sz p r.toNat > 500 then 3 else 0) else 2) else 1) := by
  unfold spec_l07Code.f
  refine Ev.bindv (spec_l01Prime_eq p) ?_
  by_cases hp : primeB p = true
  · rw [hp]
    simp only [if_true]
    refine Ev.bindv (In_eq _ _ _) ?_
    by_cases h : 0 ≤ r ∧ r ≤ 4
    · rw [decide_eq_true h, if_pos h]
      simp only [if_true]
      obtain ⟨n, rfl⟩ : ∃ n : Nat, r = (n : Int) := ⟨r.toNat, by omega⟩
      refine Ev.bind (spec_size_ev hp (n := n) (by omega)) ?_
      rw [Int.toNat_natCast]
      by_cases h5 : sz p n > 500
      · simp only [if_pos h5]; exact Ev.now _
      · simp only [if_neg h5]; exact Ev.now _
    · rw [decide_eq_false h, if_neg h]
      simp only [Bool.false_eq_true, if_false]; exact Ev.now _
  · simp only [hp, Bool.false_eq_true, if_false]; exact Ev.now _
theorem spec_l07List_ev {p r : Int} {l : List Int} {less : Int} (hl : 0 ≤ less ∧ less ≤ 1) (hlen : l.length ≤ 4611686018427387904) : Ev (fun k => spec_l07List.f k p r l less) (lcW p r l less) := by
  unfold spec_l07List.f
  refine Ev.bind (spec_l07Code_ev p r) ?_
  have j0t : ∀ x : Int, Ev (fun k => spec_l07List.j0 k p r l less x true) x := fun x => by refine Ev.up ?_; simp only [spec_l07List.j0, if_true]; exact Ev.now _
  unfold lcW
  by_cases hp : primeB p = true
  · simp only [if_pos hp]
    by_cases hr : 0 ≤ r ∧ r ≤ 4
    · simp only [if_pos hr]
      obtain ⟨n, rfl⟩ : ∃ n : Nat, r = (n : Int) := ⟨r.toNat, by omega⟩
      rw [Int.toNat_natCast]
      have go : ∀ x : Int, x ≠ 1 → x ≠ 2 → Ev (fun k => if x = 1 then spec_l07List.j0 k p n l less x true else spec_l07List.j0 k p n l less x (x == 2)) (if (0 ≤ (n : Int) ∧ (n : Int) ≤ 4) ∧ (l.length : Int) + less = sz p n ∧ inB l = true then x else 2) := by
        intro x h1 h2
        simp only [if_neg h1, show (x == 2) = false from beq_eq_false_iff_ne.2 h2]
        refine Ev.up ?_
        simp only [spec_l07List.j0, Bool.false_eq_true, if_false]
        refine Ev.bind (spec_size_ev hp (n := n) (by omega)) ?_
        rw [wid (n := (l.length : Int) + less) (by omega) (by omega)]
        by_cases hlen : (l.length : Int) + less = sz p n
        · simp only [if_pos hlen]
          refine Ev.bind (spec_values_ev (by omega)) ?_
          cases hv : inB l with
          | false => simp only [Bool.false_eq_true, if_false, and_false]; exact Ev.now _
          | true => rw [if_pos (show (0 ≤ (n : Int) ∧ (n : Int) ≤ 4) ∧ (l.length : Int) + less = sz p n ∧ true = true from ⟨hr, hlen, rfl⟩)]; simp only [if_true]; exact Ev.now _
        · simp only [if_neg hlen]
          rw [if_neg (fun h => hlen h.2.1)]; exact Ev.now _
      by_cases h5 : sz p n > 500
      · simp only [if_pos h5]; exact go 3 (by decide) (by decide)
      · simp only [if_neg h5]; exact go 0 (by decide) (by decide)
    · simp only [if_neg hr]
      rw [if_neg (fun h => hr h.1)]
      exact j0t 2
  · simp only [if_neg hp]; exact j0t 1

def dif (p : Int) (f : List Int) (i : Nat) : Int := rd f ((i : Int) + 1) - rd f (par p ((i : Int) + 1))
def difs (p : Int) (f : List Int) : List Int := (List.range (f.length - 1)).map (dif p f)
theorem rd_range (g : Nat → Int) {n i : Nat} (h : i < n) : rd ((List.range n).map g) (i : Int) = g i := by
  unfold rd
  rw [Int.toNat_natCast, List.getD_eq_getElem?_getD, List.getElem?_map, List.getElem?_range h]; rfl
theorem rd_app {l : List Int} {x : Int} {i : Int} (h0 : 0 ≤ i) (h : i < l.length) : rd (l ++ [x]) i = rd l i := by
  unfold rd
  rw [List.getD_eq_getElem?_getD, List.getD_eq_getElem?_getD, List.getElem?_append_left (by omega)]
theorem rd_last (l : List Int) (x : Int) : rd (l ++ [x]) (l.length : Int) = x := by
  unfold rd
  rw [Int.toNat_natCast, List.getD_eq_getElem?_getD, List.getElem?_append_right (Nat.le_refl _)]; simp
def isPot (p c : Int) (flow f : List Int) : Prop := rd f 0 = c ∧ ∀ i : Nat, 1 ≤ i → i < f.length → rd f (i : Int) = rd f (par p (i : Int)) + rd flow ((i : Int) - 1)
theorem pot_bd {p c : Int} {flow f : List Int} (hp : 2 ≤ p) (h : isPot p c flow f) (hl : f.length ≤ flow.length + 1) (hc : -1000000 ≤ c ∧ c ≤ 1000000) (hf : inB flow = true) (n : Nat) : ∀ i : Nat, i ≤ n → i < f.length → -(1000000 * (i + 1)) ≤ rd f (i : Int) ∧ rd f (i : Int) ≤ 1000000 * ((i : Int) + 1) := by
  induction n with
  | zero =>
    intro i hi hlt
    obtain rfl : i = 0 := by omega
    have := h.1
    rw [show ((0 : Nat) : Int) = 0 from rfl, this]; omega
  | succ n ih =>
    intro i hi hlt
    rcases Nat.lt_or_ge i (n + 1) with h1 | h1
    · exact ih i (by omega) hlt
    · have e := h.2 i (by omega) hlt
      obtain ⟨b1, b2⟩ := par_lt (p := p) (i := i) hp (by omega)
      have := ih (par p i).toNat (by omega) (by omega)
      rw [Int.toNat_of_nonneg b1] at this
      have h2 := inB_rd hf (i := i - 1) (by omega)
      rw [show ((i - 1 : Nat) : Int) = (i : Int) - 1 from by omega] at h2
      rw [e]; omega
theorem pot_loops {p c : Int} {flow : List Int} (hp : primeB p = true) (hl : flow.length ≤ 500) (hc : -1000000 ≤ c ∧ c ≤ 1000000) (hf : inB flow = true) (d : Nat) : ∀ (f : List Int), 1 ≤ f.length → f.length + d = flow.length + 1 → isPot p c flow f → ∃ g : List Int, g.length = flow.length + 1 ∧ isPot p c flow g ∧
    Ev (fun k => impl_PotentialOf.l0 k p flow f f.length) (if inB g = true then (g, 0) else ([], 3)) ∧ Ev (fun k => spec_PotentialOf.l0 k p flow f f.length) (if inB g = true then (g, 0) else ([], 3)) := by
  have hp2 := prime_lo hp
  induction d with
  | zero =>
    intro f h1 h2 hi
    refine ⟨f, by omega, hi, Ev.up ?_, Ev.up ?_⟩
    · simp only [impl_PotentialOf.l0, if_neg (show ¬ (f.length : Int) ≤ (flow.length : Int) by omega)]
      refine Ev.bind (impl_values_ev (by omega)) ?_
      cases inB f <;> simp <;> exact Ev.now _
    · simp only [spec_PotentialOf.l0, if_neg (show ¬ (f.length : Int) ≤ (flow.length : Int) by omega)]
      refine Ev.bind (spec_values_ev (by omega)) ?_
      cases inB f <;> simp <;> exact Ev.now _
  | succ d ih =>
    intro f h1 h2 hi
    obtain ⟨b1, b2⟩ := par_lt (p := p) (i := f.length) hp2 (by omega)
    have hb := pot_bd hp2 hi (by omega) hc hf f.length (par p f.length).toNat (by omega) (by omega)
    rw [Int.toNat_of_nonneg b1] at hb
    have h3 := inB_rd hf (i := f.length - 1) (by omega)
    rw [show ((f.length - 1 : Nat) : Int) = (f.length : Int) - 1 from by omega] at h3
    have hi' : isPot p c flow (f ++ [rd f (par p f.length) + rd flow ((f.length : Int) - 1)]) := by
      refine ⟨?_, fun i hi1 hi2 => ?_⟩
      · rw [rd_app (by omega) (by omega)]; exact hi.1
      · rw [List.length_append, List.length_singleton] at hi2
        obtain ⟨c1, c2⟩ := par_lt (p := p) (i := i) hp2 (by omega)
        rcases Nat.lt_or_ge i f.length with h | h
        · rw [rd_app (by omega) (by omega), rd_app c1 (by omega)]; exact hi.2 i hi1 h
        · obtain rfl : i = f.length := by omega
          rw [rd_last, rd_app c1 (by omega)]
    obtain ⟨g, g1, g2, g3, g4⟩ := ih _ (by simp) (by simp; omega) hi'
    rw [List.length_append, List.length_singleton] at g3 g4
    refine ⟨g, g1, g2, Ev.up ?_, Ev.up ?_⟩
    · simp only [impl_PotentialOf.l0, if_pos (show (f.length : Int) ≤ (flow.length : Int) by omega)]
      refine Ev.bindv (impl_parent_eq hp (by omega) (by omega)) ?_
      rw [wid (n := (f.length : Int) - 1) (by omega) (by omega), wid (n := (f.length : Int) + 1) (by omega) (by omega), wid (n := rd f (par p f.length) + rd flow ((f.length : Int) - 1)) (by omega) (by omega)]
      simp only [if_pos b1, if_pos b2, if_pos (show (0 : Int) ≤ (f.length : Int) - 1 by omega), if_pos (show (f.length : Int) - 1 < (flow.length : Int) by omega), if_pos (show f.length < 17592186044416 by omega)]
      exact g3
    · simp only [spec_PotentialOf.l0, if_pos (show (f.length : Int) ≤ (flow.length : Int) by omega)]
      refine Ev.bindv (spec_parent_eq hp (by omega) (by omega)) ?_
      rw [wid (n := (f.length : Int) - 1) (by omega) (by omega), wid (n := (f.length : Int) + 1) (by omega) (by omega), wid (n := rd f (par p f.length) + rd flow ((f.length : Int) - 1)) (by omega) (by omega)]
      simp only [if_pos b1, if_pos b2, if_pos (show (0 : Int) ≤ (f.length : Int) - 1 by omega), if_pos (show (f.length : Int) - 1 < (flow.length : Int) by omega), if_pos (show f.length < 17592186044416 by omega)]
      exact g4
theorem one_within (c : Int) : inB [c] = decide (-1000000 ≤ c ∧ c ≤ 1000000) := by simp [inB]
theorem pot_both (p r c : Int) (flow : List Int) (hlen : flow.length ≤ 4611686018427387904) : ∃ q : List Int × Int, Ev (fun k => impl_PotentialOf.f k p r c flow) q ∧ Ev (fun k => spec_PotentialOf.f k p r c flow) q ∧ q.1.length ≤ 501 ∧
    (q.2 = 0 → lcW p r flow 1 = 0 ∧ q.1.length = flow.length + 1 ∧ isPot p c flow q.1 ∧ inB q.1 = true) := by
  have hi := impl_listCode_ev (p := p) (r := r) (least := 0) (l := flow) (less := 1) (by omega) (by omega)
  have hs := spec_l07List_ev (p := p) (r := r) (l := flow) (less := 1) (by omega) hlen
  have e0 : (if primeB p = true ∧ r < 0 then 2 else lcW p r flow 1) = lcW p r flow 1 := by
    by_cases h : primeB p = true ∧ r < 0
    · rw [if_pos h]; unfold lcW; rw [if_pos h.1, if_neg (fun h2 => by omega)]
    · rw [if_neg h]
  rw [e0] at hi
  obtain ⟨x, hx⟩ : ∃ x, x = lcW p r flow 1 := ⟨_, rfl⟩
  have hrange : x = 0 ∨ x = 1 ∨ x = 2 ∨ x = 3 := by rw [hx]; exact lcW_cases p r flow 1
  have impl_of : ∀ q, (x = 1 ∨ x = 2 → q = (([] : List Int), x)) → ((x = 0 ∨ x = 3) → inB [c] = false → q = ([], 2)) → (x = 3 → inB [c] = true → q = ([], 3)) → (x = 0 → inB [c] = true → Ev (fun k => impl_PotentialOf.l0 k p flow [c] 1) q) → Ev (fun k => impl_PotentialOf.f k p r c flow) q := by
    intro q q1 q2 q3 q4
    unfold impl_PotentialOf.f
    refine Ev.bind hi ?_
    rw [← hx]
    have jt : Ev (fun k => impl_PotentialOf.j0 k p c flow x true) (([] : List Int), x) := by refine Ev.up ?_; simp only [impl_PotentialOf.j0, if_true]; exact Ev.now _
    have jf : (x = 0 ∨ x = 3) → Ev (fun k => impl_PotentialOf.j0 k p c flow x false) q := by
      intro h03
      refine Ev.up ?_
      simp only [impl_PotentialOf.j0, Bool.false_eq_true, if_false]
      refine Ev.bind (impl_values_ev (by simp)) ?_
      cases hb : inB [c] with
      | false => simp only [Bool.false_eq_true, if_false]; rw [q2 h03 hb]; exact Ev.now _
      | true =>
        simp only [if_true]
        rcases h03 with h0 | h3
        · simp only [if_pos h0]; exact q4 h0 hb
        · simp only [if_neg (show ¬ x = 0 by omega)]; rw [q3 h3 hb, h3]; exact Ev.now _
    rcases hrange with h | h | h | h
    · simp only [if_neg (show ¬ x = 1 by omega), show (x == 2) = false from beq_eq_false_iff_ne.2 (by omega)]; exact jf (.inl h)
    · simp only [if_pos h]; rw [q1 (.inl h)]; exact jt
    · simp only [if_neg (show ¬ x = 1 by omega), show (x == 2) = true from beq_iff_eq.2 h]; rw [q1 (.inr h)]; exact jt
    · simp only [if_neg (show ¬ x = 1 by omega), show (x == 2) = false from beq_eq_false_iff_ne.2 (by omega)]; exact jf (.inr h)
  have spec_of : ∀ q, (x = 1 ∨ x = 2 → q = (([] : List Int), x)) → ((x = 0 ∨ x = 3) → inB [c] = false → q = ([], 2)) → (x = 3 → inB [c] = true → q = ([], 3)) → (x = 0 → inB [c] = true → Ev (fun k => spec_PotentialOf.l0 k p flow [c] 1) q) → Ev (fun k => spec_PotentialOf.f k p r c flow) q := by
    intro q q1 q2 q3 q4
    rw [one_within] at q2 q3 q4
    unfold spec_PotentialOf.f
    refine Ev.bind hs ?_
    rw [← hx]
    have j1 : ∀ y, y ≠ 0 → Ev (fun k => spec_PotentialOf.j1 k p c flow y) (([] : List Int), y) := fun y hy => by refine Ev.up ?_; simp only [spec_PotentialOf.j1, if_neg hy]; exact Ev.now _
    have jj : (x = 0 ∨ x = 3) → ∀ b : Bool, b = !decide (-1000000 ≤ c ∧ c ≤ 1000000) → Ev (fun k => spec_PotentialOf.j0 k p c flow x b) q := by
      intro h03 b hb
      refine Ev.up ?_
      cases hd : decide (-1000000 ≤ c ∧ c ≤ 1000000) with
      | false =>
        rw [hd] at hb; subst hb
        simp only [spec_PotentialOf.j0, Bool.not_false, if_true]
        rw [q2 h03 hd]; exact j1 2 (by decide)
      | true =>
        rw [hd] at hb; subst hb
        simp only [spec_PotentialOf.j0, Bool.not_true, Bool.false_eq_true, if_false]
        rcases h03 with h0 | h3
        · refine Ev.up ?_
          simp only [spec_PotentialOf.j1, if_pos h0]; exact q4 h0 hd
        · rw [q3 h3 hd, h3]; exact j1 3 (by decide)
    rcases hrange with h | h | h | h
    · simp only [if_pos h]
      refine Ev.bindv (In_eq _ _ _) ?_
      exact jj (.inl h) _ rfl
    · simp only [if_neg (show ¬ x = 0 by omega), if_neg (show ¬ x = 3 by omega)]
      refine Ev.up ?_
      simp only [spec_PotentialOf.j0, Bool.false_eq_true, if_false]
      rw [q1 (.inl h)]; exact j1 x (by omega)
    · simp only [if_neg (show ¬ x = 0 by omega), if_neg (show ¬ x = 3 by omega)]
      refine Ev.up ?_
      simp only [spec_PotentialOf.j0, Bool.false_eq_true, if_false]
      rw [q1 (.inr h)]; exact j1 x (by omega)
    · simp only [if_neg (show ¬ x = 0 by omega), if_pos h]
      refine Ev.bindv (In_eq _ _ _) ?_
      exact jj (.inr h) _ rfl
  rcases hrange with h | h | h | h
  · cases hb : inB [c] with
    | false => exact ⟨([], 2), impl_of _ (fun _ => by omega) (fun _ _ => rfl) (fun _ => by omega) (fun _ h2 => by rw [hb] at h2; simp at h2), spec_of _ (fun _ => by omega) (fun _ _ => rfl) (fun _ => by omega) (fun _ h2 => by rw [hb] at h2; simp at h2), by simp, fun h2 => by simp at h2⟩
    | true =>
      obtain ⟨o1, o2, o3, o4, o5⟩ := lcW_ok (hx.symm.trans h)
      have hc : -1000000 ≤ c ∧ c ≤ 1000000 := by rw [one_within] at hb; exact of_decide_eq_true hb
      obtain ⟨g, g1, g2, g3, g4⟩ := pot_loops o1 (by omega) hc o4 flow.length [c] (by simp) (by simp; omega) ⟨by simp [rd], fun i i1 i2 => by simp at i2; omega⟩
      refine ⟨_, impl_of _ (fun _ => by omega) (fun _ h2 => by rw [hb] at h2; simp at h2) (fun _ => by omega) (fun _ _ => g3), spec_of _ (fun _ => by omega) (fun _ h2 => by rw [hb] at h2; simp at h2) (fun _ => by omega) (fun _ _ => g4), ?_, ?_⟩
      · cases inB g <;> simp; omega
      · cases hg : inB g with
        | false => intro h2; simp at h2
        | true => intro _; exact ⟨hx.symm.trans h, by simpa using g1, by simpa using g2, by simpa using hg⟩
  · exact ⟨([], x), impl_of _ (fun _ => rfl) (fun h2 => by omega) (fun h2 => by omega) (fun h2 => by omega), spec_of _ (fun _ => rfl) (fun h2 => by omega) (fun h2 => by omega) (fun h2 => by omega), by simp, fun h2 => by simp at h2; omega⟩
  · exact ⟨([], x), impl_of _ (fun _ => rfl) (fun h2 => by omega) (fun h2 => by omega) (fun h2 => by omega), spec_of _ (fun _ => rfl) (fun h2 => by omega) (fun h2 => by omega) (fun h2 => by omega), by simp, fun h2 => by simp at h2; omega⟩
  · cases hb : inB [c] with
    | false => exact ⟨([], 2), impl_of _ (fun h2 => by omega) (fun _ _ => rfl) (fun _ h2 => by rw [hb] at h2; simp at h2) (fun h2 => by omega), spec_of _ (fun h2 => by omega) (fun _ _ => rfl) (fun _ h2 => by rw [hb] at h2; simp at h2) (fun h2 => by omega), by simp, fun h2 => by simp at h2⟩
    | true => exact ⟨([], 3), impl_of _ (fun h2 => by omega) (fun _ h2 => by rw [hb] at h2; simp at h2) (fun _ _ => rfl) (fun h2 => by omega), spec_of _ (fun h2 => by omega) (fun _ h2 => by rw [hb] at h2; simp at h2) (fun _ _ => rfl) (fun h2 => by omega), by simp, fun h2 => by simp at h2⟩

theorem rd_bd {l : List Int} (h : inB l = true) (i : Nat) : -1000000 ≤ rd l (i : Int) ∧ rd l (i : Int) ≤ 1000000 := by
  rcases Nat.lt_or_ge i l.length with h1 | h1
  · exact inB_rd h h1
  · unfold rd; rw [Int.toNat_natCast, List.getD_eq_getElem?_getD, List.getElem?_eq_none h1]; simp
theorem rd_bdI {l : List Int} (h : inB l = true) (i : Int) : -1000000 ≤ rd l i ∧ rd l i ≤ 1000000 := by
  have := rd_bd h i.toNat
  unfold rd at *; rwa [Int.toNat_natCast] at this
theorem difs_len (p : Int) (f : List Int) : (difs p f).length = f.length - 1 := by simp [difs]
def difW (p : Int) (f : List Int) : List Int × Int := if inB (difs p f) = true then (difs p f, 0) else ([], 3)
theorem dif_both (p r : Int) (f : List Int) (hlen : f.length ≤ 4611686018427387904) : Ev (fun k => impl_DifferencesOf.f k p r f) (if lcW p r f 0 = 0 then difW p f else ([], lcW p r f 0)) ∧ Ev (fun k => spec_DifferencesOf.f k p r f) (if lcW p r f 0 = 0 then difW p f else ([], lcW p r f 0)) := by
  have hi := impl_listCode_ev (p := p) (r := r) (least := 0) (l := f) (less := 0) (by omega) (by omega)
  have hs := spec_l07List_ev (p := p) (r := r) (l := f) (less := 0) (by omega) hlen
  have e0 : (if primeB p = true ∧ r < 0 then 2 else lcW p r f 0) = lcW p r f 0 := by
    by_cases h : primeB p = true ∧ r < 0
    · rw [if_pos h]; unfold lcW; rw [if_pos h.1, if_neg (fun h2 => by omega)]
    · rw [if_neg h]
  rw [e0] at hi
  unfold impl_DifferencesOf.f spec_DifferencesOf.f
  by_cases hx : lcW p r f 0 = 0
  · obtain ⟨o1, o2, o3, o4, o5⟩ := lcW_ok hx
    have hp2 := prime_lo o1
    have hz := sz_pos hp2 r.toNat
    rw [hx] at hi hs
    rw [if_pos hx]
    have loop : ∀ d j : Nat, j + d = f.length - 1 → Ev (fun k => impl_DifferencesOf.l0 k p f ((List.range j).map (dif p f)) ((j : Int) + 1)) (difW p f) ∧ Ev (fun k => spec_DifferencesOf.l0 k p f ((List.range j).map (dif p f)) ((j : Int) + 1)) (difW p f) := by
      intro d
      induction d with
      | zero =>
        intro j hj
        obtain rfl : j = f.length - 1 := by omega
        unfold difW
        have hl := difs_len p f
        constructor
        · refine Ev.up ?_
          simp only [impl_DifferencesOf.l0, if_neg (show ¬ ((f.length - 1 : Nat) : Int) + 1 < (f.length : Int) by omega)]
          refine Ev.bind (impl_values_ev (l := difs p f) (by omega)) ?_
          cases inB (difs p f) <;> simp <;> exact Ev.now _
        · refine Ev.up ?_
          simp only [spec_DifferencesOf.l0, if_neg (show ¬ ((f.length - 1 : Nat) : Int) + 1 < (f.length : Int) by omega)]
          refine Ev.bind (spec_values_ev (l := difs p f) (by omega)) ?_
          cases inB (difs p f) <;> simp <;> exact Ev.now _
      | succ d ih =>
        intro j hj
        obtain ⟨i1, i2⟩ := ih (j + 1) (by omega)
        rw [List.range_succ, List.map_append, show ((j + 1 : Nat) : Int) = (j : Int) + 1 from by omega] at i1 i2
        obtain ⟨b1, b2⟩ := par_lt (p := p) (i := (j : Int) + 1) hp2 (by omega)
        have c1 := rd_bdI o4 ((j : Int) + 1)
        have c2 := rd_bdI o4 (par p ((j : Int) + 1))
        constructor
        · refine Ev.up ?_
          simp only [impl_DifferencesOf.l0, if_pos (show (j : Int) + 1 < (f.length : Int) by omega), if_pos (show (0 : Int) ≤ (j : Int) + 1 by omega)]
          refine Ev.bindv (impl_parent_eq o1 (by omega) (by omega)) ?_
          rw [wid (n := (j : Int) + 1 + 1) (by omega) (by omega), wid (n := rd f ((j : Int) + 1) - rd f (par p ((j : Int) + 1))) (by omega) (by omega)]
          simp only [if_pos b1, if_pos (show par p ((j : Int) + 1) < (f.length : Int) by omega), List.length_map, List.length_range, if_pos (show j < 17592186044416 by omega)]
          exact i1
        · refine Ev.up ?_
          simp only [spec_DifferencesOf.l0, if_pos (show (j : Int) + 1 < (f.length : Int) by omega), if_pos (show (0 : Int) ≤ (j : Int) + 1 by omega)]
          refine Ev.bindv (spec_parent_eq o1 (by omega) (by omega)) ?_
          rw [wid (n := (j : Int) + 1 + 1) (by omega) (by omega), wid (n := rd f ((j : Int) + 1) - rd f (par p ((j : Int) + 1))) (by omega) (by omega)]
          simp only [if_pos b1, if_pos (show par p ((j : Int) + 1) < (f.length : Int) by omega), List.length_map, List.length_range, if_pos (show j < 17592186044416 by omega)]
          exact i2
    obtain ⟨l1, l2⟩ := loop (f.length - 1) 0 (by omega)
    constructor
    · refine Ev.bind hi ?_
      simp only [if_true]
      exact l1
    · refine Ev.bind hs ?_
      simp only [if_true]
      exact l2
  · rw [if_neg hx]
    constructor
    · refine Ev.bind hi ?_
      simp only [if_neg hx]; exact Ev.now _
    · refine Ev.bind hs ?_
      simp only [if_neg hx]; exact Ev.now _
theorem difs_pot {p c : Int} {flow f : List Int} (hl : f.length = flow.length + 1) (h : isPot p c flow f) : difs p f = flow := by
  refine List.ext_getElem? fun j => ?_
  by_cases hj : j < flow.length
  · have e1 : (difs p f)[j]? = some (dif p f j) := by
      unfold difs; rw [List.getElem?_map, List.getElem?_range (by omega)]; rfl
    rw [e1, List.getElem?_eq_getElem hj]
    congr 1
    have := h.2 (j + 1) (by omega) (by omega)
    unfold dif
    rw [show ((j + 1 : Nat) : Int) = (j : Int) + 1 from by omega] at this
    rw [this, show (j : Int) + 1 - 1 = (j : Int) from by omega, rd_nat flow j hj]
    omega
  · rw [List.getElem?_eq_none (by rw [difs_len]; omega), List.getElem?_eq_none (by omega)]

def nsum (p : Int) (f : List Int) (i : Nat) : Int := (if 0 < (i : Int) then rd f (par p i) else 0) + sumF (fun j => rd f (fch p i + j)) (cnt p i)
section
variable {p : Int} {f : List Int} {n : Nat} (hp : primeB p = true) (hn : n + 1 ≤ 4) (hl : (f.length : Int) = sz p (n + 1)) (hf : inB f = true) (h5 : sz p (n + 1) ≤ 500)
include hp hn hl hf h5 in
theorem impl_ns_l1 (i : Nat) (hi : (i : Int) < sz p n) (out : List Int) (ho : out.length ≤ 3201) {r : List Int} (b : Int) (hb : -1000000 ≤ b ∧ b ≤ 1000000) (nx : Ev (fun k => impl_neighbourSums.l0 k p f (out ++ [b + sumF (fun j => rd f (fch p i + j)) (cnt p i)]) (sz p n) ((i : Int) + 1)) r) (d : Nat) : ∀ j : Nat, j + d = cnt p i → Ev (fun k => impl_neighbourSums.l1 k p f out (b + sumF (fun j => rd f (fch p i + j)) j) (sz p n) i (chs p i) (cnt p i) j) r := by
  have hp2 := prime_lo hp
  have h8 := cnt_le (prime_hi hp) (i : Int)
  have hz := sz_bd hp (n := n) (by omega)
  induction d with
  | zero =>
    intro j hj
    obtain rfl : j = cnt p i := by omega
    refine Ev.up ?_
    simp only [impl_neighbourSums.l1, if_neg (show ¬ ((cnt p i : Nat) : Int) < ((cnt p i : Nat) : Int) by omega), if_pos (show out.length < 17592186044416 by omega)]
    rw [wid (n := (i : Int) + 1) (by omega) (by omega)]
    exact nx
  | succ d ih =>
    intro j hj
    obtain ⟨c1, c2⟩ := child_lt (p := p) (i := i) (j := j) (m := n) hp2 (by omega) hi (by omega)
    have hs := sumF_bd (g := fun j => rd f (fch p i + j)) (n := j) (fun j _ => rd_bdI hf (fch p i + j))
    have h4 := Int.mul_le_mul_of_nonneg_right (show ((j : Nat) : Int) ≤ 8 by omega) (show (0 : Int) ≤ 1000000 by omega)
    have h6 := rd_bdI hf (fch p i + j)
    refine Ev.up ?_
    simp only [impl_neighbourSums.l1, if_pos (show (j : Int) < ((cnt p i : Nat) : Int) by omega), if_pos (show (0 : Int) ≤ (j : Int) by omega), chs_len, chs_rd (p := p) (i := i) (show j < cnt p i by omega), if_pos (show 0 ≤ fch p i + (j : Int) by omega), if_pos (show fch p i + (j : Int) < (f.length : Int) by omega)]
    rw [wid (n := (j : Int) + 1) (by omega) (by omega), wid (n := b + sumF (fun j => rd f (fch p i + j)) j + rd f (fch p i + j)) (by omega) (by omega)]
    have := ih (j + 1) (by omega)
    simp only [sumF] at this
    rw [← Int.add_assoc] at this
    exact this
include hp hn hl hf h5 in
theorem impl_ns_l0 (d : Nat) : ∀ i : Nat, (i : Int) + d = sz p n → Ev (fun k => impl_neighbourSums.l0 k p f ((List.range i).map (nsum p f)) (sz p n) i) ((List.range (sz p n).toNat).map (nsum p f)) := by
  have hp2 := prime_lo hp
  have hz := sz_bd hp (n := n) (by omega)
  induction d with
  | zero =>
    intro i hi
    refine Ev.up ?_
    simp only [impl_neighbourSums.l0, if_neg (show ¬ (i : Int) < sz p n by omega)]
    rw [show (sz p n).toNat = i from by omega]; exact Ev.now _
  | succ d ih =>
    intro i hi
    have hc := impl_childs_ev (p := p) (i := i) hp (by omega) (by omega)
    have nx := ih (i + 1) (by omega)
    rw [List.range_succ, List.map_append, show ((i + 1 : Nat) : Int) = (i : Int) + 1 from by omega] at nx
    refine Ev.up ?_
    simp only [impl_neighbourSums.l0, if_pos (show (i : Int) < sz p n by omega)]
    have j1 : ∀ b : Int, (-1000000 ≤ b ∧ b ≤ 1000000) → nsum p f i = b + sumF (fun j => rd f (fch p i + j)) (cnt p i) → Ev (fun k => impl_neighbourSums.j1 k p f ((List.range i).map (nsum p f)) i b (sz p n) i) ((List.range (sz p n).toNat).map (nsum p f)) := by
      intro b hb e
      refine Ev.up ?_
      simp only [impl_neighbourSums.j1]
      refine Ev.bind hc ?_
      rw [chs_len]
      have := impl_ns_l1 hp hn hl hf h5 i (by omega) ((List.range i).map (nsum p f)) (by simp; omega) b hb (r := (List.range (sz p n).toNat).map (nsum p f)) (by rw [← e]; exact nx) (cnt p i) 0 (by omega)
      simp only [sumF, Int.add_zero] at this
      exact this
    by_cases h0 : (i : Int) > 0
    · obtain ⟨b1, b2⟩ := par_lt (p := p) (i := i) hp2 (by omega)
      simp only [if_pos h0]
      refine Ev.bindv (impl_parent_eq hp (by omega) (by omega)) ?_
      have := sz_mono hp2 (show n ≤ n + 1 by omega)
      simp only [if_pos b1, if_pos (show par p (i : Int) < (f.length : Int) by omega)]
      exact j1 _ (rd_bdI hf _) (by unfold nsum; rw [if_pos h0])
    · simp only [if_neg h0]
      exact j1 0 (by omega) (by unfold nsum; rw [if_neg h0])
include hp hn hl hf h5 in
theorem spec_ns_l1 (i : Nat) (hi : (i : Int) < sz p n) (out : List Int) (ho : out.length ≤ 3201) {r : List Int} (b : Int) (hb : -1000000 ≤ b ∧ b ≤ 1000000) (nx : Ev (fun k => spec_l07Sums.l0 k p ((n + 1 : Nat) : Int) f (out ++ [b + sumF (fun j => rd f (fch p i + j)) (cnt p i)]) ((i : Int) + 1)) r) (d : Nat) : ∀ j : Nat, j + d = cnt p i → Ev (fun k => spec_l07Sums.l1 k p ((n + 1 : Nat) : Int) f out i (b + sumF (fun j => rd f (fch p i + j)) j) (fch p i) (cnt p i) j) r := by
  have hp2 := prime_lo hp
  have h8 := cnt_le (prime_hi hp) (i : Int)
  have hz := sz_bd hp (n := n) (by omega)
  induction d with
  | zero =>
    intro j hj
    obtain rfl : j = cnt p i := by omega
    refine Ev.up ?_
    simp only [spec_l07Sums.l1, if_neg (show ¬ ((cnt p i : Nat) : Int) < ((cnt p i : Nat) : Int) by omega), if_pos (show out.length < 17592186044416 by omega)]
    rw [wid (n := (i : Int) + 1) (by omega) (by omega)]
    exact nx
  | succ d ih =>
    intro j hj
    obtain ⟨c1, c2⟩ := child_lt (p := p) (i := i) (j := j) (m := n) hp2 (by omega) hi (by omega)
    have hs := sumF_bd (g := fun j => rd f (fch p i + j)) (n := j) (fun j _ => rd_bdI hf (fch p i + j))
    have h4 := Int.mul_le_mul_of_nonneg_right (show ((j : Nat) : Int) ≤ 8 by omega) (show (0 : Int) ≤ 1000000 by omega)
    have h6 := rd_bdI hf (fch p i + j)
    refine Ev.up ?_
    simp only [spec_l07Sums.l1, if_pos (show (j : Int) < ((cnt p i : Nat) : Int) by omega)]
    rw [wid (n := (j : Int) + 1) (by omega) (by omega), wid (n := fch p i + (j : Int)) (by omega) (by omega)]
    simp only [if_pos (show 0 ≤ fch p i + (j : Int) by omega), if_pos (show fch p i + (j : Int) < (f.length : Int) by omega)]
    rw [wid (n := b + sumF (fun j => rd f (fch p i + j)) j + rd f (fch p i + j)) (by omega) (by omega)]
    have := ih (j + 1) (by omega)
    simp only [sumF] at this
    rw [← Int.add_assoc] at this
    exact this
include hp hn hl hf h5 in
theorem spec_ns_l0 (d : Nat) : ∀ i : Nat, (i : Int) + d = sz p n → Ev (fun k => spec_l07Sums.l0 k p ((n + 1 : Nat) : Int) f ((List.range i).map (nsum p f)) i) ((List.range (sz p n).toNat).map (nsum p f)) := by
  have hp2 := prime_lo hp
  have hz := sz_bd hp (n := n) (by omega)
  have hsz := spec_size_ev hp (n := n) (by omega)
  have en : wrap64 (((n + 1 : Nat) : Int) - 1) = (n : Int) := by rw [wid (by omega) (by omega)]; omega
  induction d with
  | zero =>
    intro i hi
    refine Ev.up ?_
    simp only [spec_l07Sums.l0, en]
    refine Ev.bind hsz ?_
    simp only [if_neg (show ¬ (i : Int) < sz p n by omega)]
    rw [show (sz p n).toNat = i from by omega]; exact Ev.now _
  | succ d ih =>
    intro i hi
    have nx := ih (i + 1) (by omega)
    rw [List.range_succ, List.map_append, show ((i + 1 : Nat) : Int) = (i : Int) + 1 from by omega] at nx
    refine Ev.up ?_
    simp only [spec_l07Sums.l0, en]
    refine Ev.bind hsz ?_
    simp only [if_pos (show (i : Int) < sz p n by omega)]
    have j1 : ∀ b : Int, (-1000000 ≤ b ∧ b ≤ 1000000) → nsum p f i = b + sumF (fun j => rd f (fch p i + j)) (cnt p i) → Ev (fun k => spec_l07Sums.j1 k p ((n + 1 : Nat) : Int) f ((List.range i).map (nsum p f)) i b) ((List.range (sz p n).toNat).map (nsum p f)) := by
      intro b hb e
      refine Ev.up ?_
      simp only [spec_l07Sums.j1]
      refine Ev.bindv (spec_child_eq hp (by omega) (by omega)) ?_
      have := spec_ns_l1 hp hn hl hf h5 i (by omega) ((List.range i).map (nsum p f)) (by simp; omega) b hb (r := (List.range (sz p n).toNat).map (nsum p f)) (by rw [← e]; exact nx) (cnt p i) 0 (by omega)
      simp only [sumF, Int.add_zero] at this
      exact this
    by_cases h0 : (i : Int) > 0
    · obtain ⟨b1, b2⟩ := par_lt (p := p) (i := i) hp2 (by omega)
      simp only [if_pos h0]
      refine Ev.bindv (spec_parent_eq hp (by omega) (by omega)) ?_
      have := sz_mono hp2 (show n ≤ n + 1 by omega)
      simp only [if_pos b1, if_pos (show par p (i : Int) < (f.length : Int) by omega)]
      exact j1 _ (rd_bdI hf _) (by unfold nsum; rw [if_pos h0])
    · simp only [if_neg h0]
      exact j1 0 (by omega) (by unfold nsum; rw [if_neg h0])
end
def nsums (p : Int) (n : Nat) (f : List Int) : List Int := (List.range (sz p n).toNat).map (nsum p f)
theorem impl_nsums_ev {p r : Int} {f : List Int} (h : lcW p r f 0 = 0) (hr : 1 ≤ r) : Ev (fun k => impl_neighbourSums.f k p r f) (nsums p (r - 1).toNat f) := by
  obtain ⟨o1, o2, o3, o4, o5⟩ := lcW_ok h
  obtain ⟨n, rfl⟩ : ∃ n : Nat, r = ((n + 1 : Nat) : Int) := ⟨(r - 1).toNat, by omega⟩
  unfold impl_neighbourSums.f
  simp only [Option.bind_some, if_neg (show ¬ ((n + 1 : Nat) : Int) = 0 by omega)]
  rw [wid (n := ((n + 1 : Nat) : Int) - 1) (by omega) (by omega), show ((n + 1 : Nat) : Int) - 1 = (n : Int) from by omega, Int.toNat_natCast]
  rw [Int.toNat_natCast] at o3 o5
  have hz := sz_bd o1 (n := n) (by omega)
  refine Ev.bind (impl_size_ev o1 (n := n) (by omega)) ?_
  exact impl_ns_l0 o1 (by omega) (by omega) o4 o5 (sz p n).toNat 0 (by omega)
theorem spec_nsums_ev {p r : Int} {f : List Int} (h : lcW p r f 0 = 0) (hr : 1 ≤ r) : Ev (fun k => spec_l07Sums.f k p r f) (nsums p (r - 1).toNat f) := by
  obtain ⟨o1, o2, o3, o4, o5⟩ := lcW_ok h
  obtain ⟨n, rfl⟩ : ∃ n : Nat, r = ((n + 1 : Nat) : Int) := ⟨(r - 1).toNat, by omega⟩
  unfold spec_l07Sums.f
  rw [show (((n + 1 : Nat) : Int) - 1).toNat = n from by omega]
  rw [Int.toNat_natCast] at o3 o5
  have hz := sz_bd o1 (n := n) (by omega)
  exact spec_ns_l0 o1 (by omega) (by omega) o4 o5 (sz p n).toNat 0 (by omega)
theorem nsum_both (p r : Int) (f : List Int) (hlen : f.length ≤ 4611686018427387904) : ∃ q : List Int × Int, Ev (fun k => impl_NeighbourSums.f k p r f) q ∧ Ev (fun k => spec_NeighbourSums.f k p r f) q ∧ q.1.length ≤ 3201 := by
  have hi := impl_listCode_ev (p := p) (r := r) (least := 1) (l := f) (less := 0) (by omega) (by omega)
  have hs := spec_l07List_ev (p := p) (r := r) (l := f) (less := 0) (by omega) hlen
  have hx := lcW_cases p r f 0
  by_cases hr : r < 1
  · -- no neighbour sums
    refine ⟨([], if lcW p r f 0 = 1 then 1 else 2), ?_, ?_, by simp⟩
    · unfold impl_NeighbourSums.f
      refine Ev.bind hi ?_
      by_cases hp : primeB p = true
      · rw [if_pos ⟨hp, hr⟩, if_neg (show ¬ lcW p r f 0 = 1 by unfold lcW; rw [if_pos hp]; repeat' split <;> omega)]
        simp only [if_neg (show ¬ (2 : Int) = 0 by decide)]; exact Ev.now _
      · rw [if_neg (fun h => hp h.1)]
        have e : lcW p r f 0 = 1 := by unfold lcW; rw [if_neg hp]
        rw [e]; simp only [if_true, if_neg (show ¬ (1 : Int) = 0 by decide)]; exact Ev.now _
    · unfold spec_NeighbourSums.f
      refine Ev.bind hs ?_
      have jt : ∀ y : Int, Ev (fun k => spec_NeighbourSums.j0 k p r f y true) (([] : List Int), 2) := fun y => by refine Ev.up ?_; simp [spec_NeighbourSums.j0]; exact Ev.now _
      have jf : ∀ y : Int, y ≠ 0 → Ev (fun k => spec_NeighbourSums.j0 k p r f y false) (([] : List Int), y) := fun y hy => by refine Ev.up ?_; simp only [spec_NeighbourSums.j0, Bool.false_eq_true, if_false, if_neg hy]; exact Ev.now _
      rcases hx with h | h | h | h <;> rw [h]
      · simp only [if_true, decide_eq_true hr]; exact jt 0
      · exact jf 1 (by decide)
      · exact jf 2 (by decide)
      · exact (by rw [decide_eq_true hr]; exact jt 3)
  · rw [if_neg (fun h => hr h.2)] at hi
    by_cases h0 : lcW p r f 0 = 0
    · obtain ⟨o1, o2, o3, o4, o5⟩ := lcW_ok h0
      have hz := sz_bd o1 (n := (r - 1).toNat) (by omega)
      refine ⟨(nsums p (r - 1).toNat f, 0), ?_, ?_, by show (nsums p (r - 1).toNat f).length ≤ 3201; unfold nsums; rw [List.length_map, List.length_range]; omega⟩
      · unfold impl_NeighbourSums.f
        refine Ev.bind hi ?_
        simp only [if_pos h0]
        exact Ev.bind (impl_nsums_ev h0 (by omega)) (Ev.now _)
      · unfold spec_NeighbourSums.f
        refine Ev.bind hs ?_
        simp only [if_pos h0, decide_eq_false hr]
        refine Ev.up ?_
        simp only [spec_NeighbourSums.j0, Bool.false_eq_true, if_false, if_pos h0]
        exact Ev.bind (spec_nsums_ev h0 (by omega)) (Ev.now _)
    · refine ⟨([], lcW p r f 0), ?_, ?_, by simp⟩
      · unfold impl_NeighbourSums.f
        refine Ev.bind hi ?_
        simp only [if_neg h0]; exact Ev.now _
      · unfold spec_NeighbourSums.f
        refine Ev.bind hs ?_
        have jf : Ev (fun k => spec_NeighbourSums.j0 k p r f (lcW p r f 0) false) (([] : List Int), lcW p r f 0) := by refine Ev.up ?_; simp only [spec_NeighbourSums.j0, Bool.false_eq_true, if_false, if_neg h0]; exact Ev.now _
        simp only [if_neg h0]
        by_cases h3 : lcW p r f 0 = 3
        · simp only [if_pos h3, decide_eq_false hr]; exact jf
        · simp only [if_neg h3]; exact jf

def aF (q : Nat → Bool) : Nat → Nat → Bool
  | _, 0 => true
  | i, d + 1 => q i && aF q (i + 1) d
theorem aF_congr {q s : Nat → Bool} (d : Nat) : ∀ i : Nat, (∀ j, i ≤ j → j < i + d → q j = s j) → aF q i d = aF s i d := by
  induction d with
  | zero => intro i _; rfl
  | succ d ih => intro i h; simp only [aF]; rw [h i (by omega) (by omega), ih (i + 1) (fun j h1 h2 => h j (by omega) (by omega))]
def hB (p : Int) (f : List Int) (i : Nat) : Bool := nsum p f i == (p + 1) * rd f (i : Int)
def harmW (p r : Int) (f : List Int) : Bool := if r = 0 then true else aF (hB p f) 0 (sz p (r - 1).toNat).toNat
theorem nsums_len (p : Int) (n : Nat) (f : List Int) : (nsums p n f).length = (sz p n).toNat := by simp [nsums]
theorem rd_nsums {p : Int} {n : Nat} {f : List Int} {i : Nat} (h : i < (sz p n).toNat) : rd (nsums p n f) (i : Int) = nsum p f i := rd_range _ h
theorem harm_mul {p x : Int} (hp : primeB p = true) (hx : -1000000 ≤ x ∧ x ≤ 1000000) : wrap64 (wrap64 (p + 1) * x) = (p + 1) * x := by
  have hp2 := prime_lo hp
  have hp7 := prime_hi hp
  rw [wid (n := p + 1) (by omega) (by omega)]
  have h1 := Int.mul_le_mul_of_nonneg_left hx.2 (show 0 ≤ p + 1 by omega)
  have h2 := Int.mul_le_mul_of_nonneg_left hx.1 (show 0 ≤ p + 1 by omega)
  exact wid (by omega) (by omega)
theorem harm_both (p r : Int) (f : List Int) (hlen : f.length ≤ 4611686018427387904) : Ev (fun k => impl_IsHarmonic.f k p r f) (if lcW p r f 0 = 0 then (harmW p r f, 0) else (false, lcW p r f 0)) ∧ Ev (fun k => spec_IsHarmonic.f k p r f) (if lcW p r f 0 = 0 then (harmW p r f, 0) else (false, lcW p r f 0)) := by
  have hi := impl_listCode_ev (p := p) (r := r) (least := 0) (l := f) (less := 0) (by omega) (by omega)
  have hs := spec_l07List_ev (p := p) (r := r) (l := f) (less := 0) (by omega) hlen
  have e0 : (if primeB p = true ∧ r < 0 then 2 else lcW p r f 0) = lcW p r f 0 := by
    by_cases h : primeB p = true ∧ r < 0
    · rw [if_pos h]; unfold lcW; rw [if_pos h.1, if_neg (fun h2 => by omega)]
    · rw [if_neg h]
  rw [e0] at hi
  unfold impl_IsHarmonic.f spec_IsHarmonic.f
  by_cases hx : lcW p r f 0 = 0
  · obtain ⟨o1, o2, o3, o4, o5⟩ := lcW_ok hx
    rw [if_pos hx]
    by_cases hr : r = 0
    · subst hr
      constructor
      · refine Ev.bind hi ?_
        simp only [if_pos hx]
        refine Ev.bind (a := []) ?_ ?_
        · unfold impl_neighbourSums.f
          simp only [Option.bind_some, if_true]; exact Ev.now _
        · refine Ev.up ?_
          simp only [impl_IsHarmonic.l0, List.length_nil]
          simp [harmW]; exact Ev.now _
      · refine Ev.bind hs ?_
        simp only [if_pos hx, if_true]
        simp [harmW]; exact Ev.now _
    · have hz := sz_bd o1 (n := (r - 1).toNat) (by omega)
      have hm := sz_mono (prime_lo o1) (show (r - 1).toNat ≤ r.toNat by omega)
      have hl := nsums_len p (r - 1).toNat f
      have eh : harmW p r f = aF (hB p f) 0 (sz p (r - 1).toNat).toNat := by unfold harmW; rw [if_neg hr]
      rw [eh]
      have loop : ∀ d i : Nat, i + d = (sz p (r - 1).toNat).toNat → Ev (fun k => impl_IsHarmonic.l0 k p f (nsums p (r - 1).toNat f) ((nsums p (r - 1).toNat f).length : Int) i) (aF (hB p f) i d, 0) ∧ Ev (fun k => spec_IsHarmonic.l0 k p f (nsums p (r - 1).toNat f) i) (aF (hB p f) i d, 0) := by
        intro d
        induction d with
        | zero =>
          intro i hi
          constructor
          · refine Ev.up ?_
            simp only [impl_IsHarmonic.l0, if_neg (show ¬ (i : Int) < ((nsums p (r - 1).toNat f).length : Int) by omega), aF]; exact Ev.now _
          · refine Ev.up ?_
            simp only [spec_IsHarmonic.l0, if_neg (show ¬ (i : Int) < ((nsums p (r - 1).toNat f).length : Int) by omega), aF]; exact Ev.now _
        | succ d ih =>
          intro i hi
          obtain ⟨i1, i2⟩ := ih (i + 1) (by omega)
          have em := harm_mul o1 (rd_bd o4 i)
          constructor
          · refine Ev.up ?_
            simp only [impl_IsHarmonic.l0, if_pos (show (i : Int) < ((nsums p (r - 1).toNat f).length : Int) by omega), if_pos (show (0 : Int) ≤ (i : Int) by omega), if_pos (show (i : Int) < (f.length : Int) by omega), rd_nsums (show i < (sz p (r - 1).toNat).toNat by omega), em, wid (n := (i : Int) + 1) (by omega) (by omega)]
            unfold aF hB
            by_cases h : nsum p f i = (p + 1) * rd f (i : Int)
            · simp only [if_pos h, beq_iff_eq.2 h, Bool.true_and]; exact i1
            · simp only [if_neg h, beq_eq_false_iff_ne.2 h, Bool.false_and]; exact Ev.now _
          · refine Ev.up ?_
            simp only [spec_IsHarmonic.l0, if_pos (show (i : Int) < ((nsums p (r - 1).toNat f).length : Int) by omega), if_pos (show (0 : Int) ≤ (i : Int) by omega), if_pos (show (i : Int) < (f.length : Int) by omega), rd_nsums (show i < (sz p (r - 1).toNat).toNat by omega), em, wid (n := (i : Int) + 1) (by omega) (by omega)]
            unfold aF hB
            by_cases h : nsum p f i = (p + 1) * rd f (i : Int)
            · simp only [if_pos h, beq_iff_eq.2 h, Bool.true_and]; exact i2
            · simp only [if_neg h, beq_eq_false_iff_ne.2 h, Bool.false_and]; exact Ev.now _
      obtain ⟨l1, l2⟩ := loop (sz p (r - 1).toNat).toNat 0 (by omega)
      constructor
      · refine Ev.bind hi ?_
        simp only [if_pos hx]
        exact Ev.bind (impl_nsums_ev hx (by omega)) l1
      · refine Ev.bind hs ?_
        simp only [if_pos hx, if_neg hr]
        exact Ev.bind (spec_nsums_ev hx (by omega)) l2
  · rw [if_neg hx]
    constructor
    · refine Ev.bind hi ?_
      simp only [if_neg hx]; exact Ev.now _
    · refine Ev.bind hs ?_
      simp only [if_neg hx]; exact Ev.now _
def krule (p : Int) (w : List Int) (i : Nat) : Int := (if 0 < (i : Int) then -(rd w ((i : Int) - 1)) else 0) + sumF (fun j => rd w (fch p i + j - 1)) (cnt p i)
def keepW (p r : Int) (w : List Int) : Bool := if r = 0 then true else aF (fun i => krule p w i == 0) 0 (sz p (r - 1).toNat).toNat
theorem keep_ev {p r : Int} {w : List Int} (h : lcW p r w 1 = 0) : Ev (fun k => impl_KeepsRule.f k p r w) (keepW p r w, 0) := by
  have hi := impl_listCode_ev (p := p) (r := r) (least := 0) (l := w) (less := 1) (by omega) (by omega)
  obtain ⟨o1, o2, o3, o4, o5⟩ := lcW_ok h
  rw [if_neg (fun h2 => by omega), h] at hi
  have hp2 := prime_lo o1
  unfold impl_KeepsRule.f
  refine Ev.bind hi ?_
  simp only [if_true]
  by_cases hr : r = 0
  · simp only [if_pos hr]; unfold keepW; rw [if_pos hr]; exact Ev.now _
  obtain ⟨n, rfl⟩ : ∃ n : Nat, r = ((n + 1 : Nat) : Int) := ⟨(r - 1).toNat, by omega⟩
  simp only [if_neg hr]
  rw [wid (n := ((n + 1 : Nat) : Int) - 1) (by omega) (by omega), show ((n + 1 : Nat) : Int) - 1 = (n : Int) from by omega]
  rw [Int.toNat_natCast] at o3 o5
  have hz := sz_bd o1 (n := n) (by omega)
  refine Ev.bind (impl_size_ev o1 (n := n) (by omega)) ?_
  have ek : keepW p ((n + 1 : Nat) : Int) w = aF (fun i => krule p w i == 0) 0 (sz p n).toNat := by unfold keepW; rw [if_neg hr, show (((n + 1 : Nat) : Int) - 1).toNat = n from by omega]
  rw [ek]
  have loop : ∀ d i : Nat, i + d = (sz p n).toNat → Ev (fun k => impl_KeepsRule.l0 k p w (sz p n) i) (aF (fun i => krule p w i == 0) i d, 0) := by
    intro d
    induction d with
    | zero =>
      intro i hi
      refine Ev.up ?_
      simp only [impl_KeepsRule.l0, if_neg (show ¬ (i : Int) < sz p n by omega), aF]; exact Ev.now _
    | succ d ih =>
      intro i hi
      have nx := ih (i + 1) (by omega)
      have hc := impl_childs_ev (p := p) (i := i) o1 (by omega) (by omega)
      have h8 := cnt_le (prime_hi o1) (i : Int)
      refine Ev.up ?_
      simp only [impl_KeepsRule.l0, if_pos (show (i : Int) < sz p n by omega)]
      have l1 : ∀ b : Int, (-1000000 ≤ b ∧ b ≤ 1000000) → krule p w i = b + sumF (fun j => rd w (fch p i + j - 1)) (cnt p i) → ∀ e j : Nat, j + e = cnt p i → Ev (fun k => impl_KeepsRule.l1 k p w (b + sumF (fun j => rd w (fch p i + j - 1)) j) (sz p n) i (chs p i) (cnt p i) j) (aF (fun i => krule p w i == 0) i (d + 1), 0) := by
        intro b hb ek e
        induction e with
        | zero =>
          intro j hj
          obtain rfl : j = cnt p i := by omega
          refine Ev.up ?_
          simp only [impl_KeepsRule.l1, if_neg (show ¬ ((cnt p i : Nat) : Int) < ((cnt p i : Nat) : Int) by omega), ← ek, wid (n := (i : Int) + 1) (by omega) (by omega)]
          unfold aF
          by_cases h : krule p w i = 0
          · simp only [if_pos h, beq_iff_eq.2 h, Bool.true_and]; exact nx
          · simp only [if_neg h, beq_eq_false_iff_ne.2 h, Bool.false_and]; exact Ev.now _
        | succ e ih2 =>
          intro j hj
          obtain ⟨c1, c2⟩ := child_lt (p := p) (i := i) (j := j) (m := n) hp2 (by omega) (by omega) (by omega)
          have hs := sumF_bd (g := fun j => rd w (fch p i + j - 1)) (n := j) (fun j _ => rd_bdI o4 (fch p i + j - 1))
          have h4 := Int.mul_le_mul_of_nonneg_right (show ((j : Nat) : Int) ≤ 8 by omega) (show (0 : Int) ≤ 1000000 by omega)
          have h6 := rd_bdI o4 (fch p i + j - 1)
          refine Ev.up ?_
          simp only [impl_KeepsRule.l1, if_pos (show (j : Int) < ((cnt p i : Nat) : Int) by omega), if_pos (show (0 : Int) ≤ (j : Int) by omega), chs_len, chs_rd (p := p) (i := i) (show j < cnt p i by omega)]
          rw [wid (n := fch p i + (j : Int) - 1) (by omega) (by omega), wid (n := (j : Int) + 1) (by omega) (by omega)]
          simp only [if_pos (show 0 ≤ fch p i + (j : Int) - 1 by omega), if_pos (show fch p i + (j : Int) - 1 < (w.length : Int) by omega)]
          rw [wid (n := b + sumF (fun j => rd w (fch p i + j - 1)) j + rd w (fch p i + j - 1)) (by omega) (by omega)]
          have := ih2 (j + 1) (by omega)
          simp only [sumF] at this
          rw [← Int.add_assoc] at this
          exact this
      have j1 : ∀ b : Int, (-1000000 ≤ b ∧ b ≤ 1000000) → krule p w i = b + sumF (fun j => rd w (fch p i + j - 1)) (cnt p i) → Ev (fun k => impl_KeepsRule.j1 k p w i b (sz p n) i) (aF (fun i => krule p w i == 0) i (d + 1), 0) := by
        intro b hb ek
        refine Ev.up ?_
        simp only [impl_KeepsRule.j1]
        refine Ev.bind hc ?_
        rw [chs_len]
        have := l1 b hb ek (cnt p i) 0 (by omega)
        simp only [sumF, Int.add_zero] at this
        exact this
      by_cases h0 : (i : Int) > 0
      · simp only [if_pos h0]
        have hm := sz_mono hp2 (show n ≤ n + 1 by omega)
        have h6 := rd_bdI o4 ((i : Int) - 1)
        rw [wid (n := (i : Int) - 1) (by omega) (by omega)]
        simp only [if_pos (show (0 : Int) ≤ (i : Int) - 1 by omega), if_pos (show (i : Int) - 1 < (w.length : Int) by omega)]
        rw [wid (n := -(rd w ((i : Int) - 1))) (by omega) (by omega)]
        exact j1 _ (by omega) (by unfold krule; rw [if_pos h0])
      · simp only [if_neg h0]
        exact j1 0 (by omega) (by unfold krule; rw [if_neg h0])
  exact loop (sz p n).toNat 0 (by omega)
theorem harm_keep {p r c : Int} {w f : List Int} (hp : primeB p = true) (hr : 0 ≤ r ∧ r ≤ 4) (hl : (f.length : Int) = sz p r.toNat) (hlw : f.length = w.length + 1) (h : isPot p c w f) : harmW p r f = keepW p r w := by
  unfold harmW keepW
  by_cases h0 : r = 0
  · rw [if_pos h0, if_pos h0]
  rw [if_neg h0, if_neg h0]
  obtain ⟨n, rfl⟩ : ∃ n : Nat, r = ((n + 1 : Nat) : Int) := ⟨(r - 1).toNat, by omega⟩
  rw [show (((n + 1 : Nat) : Int) - 1).toNat = n from by omega]
  rw [Int.toNat_natCast] at hl
  have hp2 := prime_lo hp
  have hz := sz_bd hp (n := n) (by omega)
  have hm := sz_mono hp2 (show n ≤ n + 1 by omega)
  refine aF_congr _ _ (fun i _ hi => ?_)
  have key : krule p w i = nsum p f i - (p + 1) * rd f (i : Int) := by
    have hs : sumF (fun j => rd w (fch p i + j - 1)) (cnt p i) = sumF (fun j => rd f (fch p i + j)) (cnt p i) - (cnt p i) * rd f (i : Int) := by
      rw [← sumF_const, ← sumF_sub]
      refine sumF_congr (fun j hj => ?_)
      obtain ⟨c1, c2⟩ := child_lt (p := p) (i := i) (j := j) (m := n) hp2 (by omega) (by omega) hj
      have := h.2 (fch p i + j).toNat (by omega) (by omega)
      rw [Int.toNat_of_nonneg (by omega), par_child hp2 (by omega) hj] at this
      omega
    unfold krule nsum
    rw [hs]
    by_cases hi0 : 0 < (i : Int)
    · rw [if_pos hi0, if_pos hi0]
      have := h.2 i (by omega) (by omega)
      have ec : ((cnt p i : Nat) : Int) = p := by unfold cnt; rw [if_neg (by omega)]; omega
      rw [ec, Int.add_mul, Int.one_mul]; omega
    · rw [if_neg hi0, if_neg hi0]
      have ec : ((cnt p i : Nat) : Int) = p + 1 := by unfold cnt; rw [if_pos (by omega)]; omega
      rw [ec]; omega
  unfold hB
  rw [key, Bool.eq_iff_iff, beq_iff_eq, beq_iff_eq]
  omega

def SF (p : Int) (f : List Int) : Nat → Int → Int → Int
  | 0, i, _ => rd f i
  | n + 1, i, b => (if 0 < i ∧ par p i ≠ b then SF p f n (par p i) i else 0) + sumF (fun j => if fch p i + (j : Int) = b then 0 else SF p f n (fch p i + j) i) (cnt p i)
theorem SF_bd {p : Int} {f : List Int} (hp : primeB p = true) (hf : inB f = true) (n : Nat) : ∀ i b : Int, -(1000000 * 9 ^ n) ≤ SF p f n i b ∧ SF p f n i b ≤ 1000000 * 9 ^ n := by
  induction n with
  | zero => intro i b; simp only [SF]; have := rd_bdI hf i; omega
  | succ n ih =>
    intro i b
    have h9 : (1 : Int) ≤ 9 ^ n := Int.pow_pos (by omega)
    have e9 : (9 : Int) ^ (n + 1) = 9 ^ n * 9 := Int.pow_succ _ _
    have h1 := sumF_bd (g := fun j => if fch p i + (j : Int) = b then 0 else SF p f n (fch p i + j) i) (M := 1000000 * 9 ^ n) (n := cnt p i) (fun j _ => by
      split
      · omega
      · exact ih _ _)
    have h8 := cnt_le (prime_hi hp) i
    have h2 := Int.mul_le_mul_of_nonneg_right (show ((cnt p i : Nat) : Int) ≤ 8 by omega) (show (0 : Int) ≤ 1000000 * 9 ^ n by omega)
    have h3 := ih (par p i) i
    simp only [SF]
    rw [e9]
    split <;> omega
section
variable {p : Int} {f : List Int} {R : Nat} (hp : primeB p = true) (hR : R ≤ 4) (hl : (f.length : Int) = sz p R) (hf : inB f = true) (h5 : sz p R ≤ 500)
include hp hR hl hf h5 in
theorem impl_far_ev (n : Nat) : ∀ (m : Nat) (i b : Int), 0 ≤ i → i < sz p m → m + n ≤ R → Ev (fun k => impl_sumFar.f k p f i n b) (SF p f n i b) := by
  have hp2 := prime_lo hp
  induction n with
  | zero =>
    intro m i b h0 h1 hm
    have := sz_mono hp2 (show m ≤ R by omega)
    refine Ev.up ?_
    simp only [impl_sumFar.f, if_pos (show ((0 : Nat) : Int) = 0 from rfl), if_pos h0, if_pos (show i < (f.length : Int) by omega), SF]; exact Ev.now _
  | succ n ih =>
    intro m i b h0 h1 hm
    have hmR := sz_mono hp2 (show m ≤ R by omega)
    have hm1 := sz_mono hp2 (show m ≤ m + 1 by omega)
    have hc := impl_childs_ev (p := p) (i := i) hp h0 (by omega)
    have h8 := cnt_le (prime_hi hp) i
    have h9 : (9 : Int) ^ n ≤ 729 := by
      have : n = 0 ∨ n = 1 ∨ n = 2 ∨ n = 3 := by omega
      rcases this with rfl | rfl | rfl | rfl <;> decide
    have h90 : (1 : Int) ≤ 9 ^ n := Int.pow_pos (by omega)
    have en : wrap64 (((n + 1 : Nat) : Int) - 1) = (n : Int) := by rw [wid (by omega) (by omega)]; omega
    have loop : ∀ b0 : Int, (-729000000 ≤ b0 ∧ b0 ≤ 729000000) → ∀ e j : Nat, j + e = cnt p i → Ev (fun k => impl_sumFar.l0 k p f i ((n + 1 : Nat) : Int) b (b0 + sumF (fun j => if fch p i + (j : Int) = b then 0 else SF p f n (fch p i + j) i) j) (chs p i) (cnt p i) j) (b0 + sumF (fun j => if fch p i + (j : Int) = b then 0 else SF p f n (fch p i + j) i) (cnt p i)) := by
      intro b0 hb e
      induction e with
      | zero =>
        intro j hj
        obtain rfl : j = cnt p i := by omega
        refine Ev.up ?_
        simp only [impl_sumFar.l0, if_neg (show ¬ ((cnt p i : Nat) : Int) < ((cnt p i : Nat) : Int) by omega)]; exact Ev.now _
      | succ e ih2 =>
        intro j hj
        obtain ⟨c1, c2⟩ := child_lt (p := p) (i := i) (j := j) (m := m) hp2 h0 h1 (by omega)
        have nx := ih2 (j + 1) (by omega)
        refine Ev.up ?_
        simp only [impl_sumFar.l0, if_pos (show (j : Int) < ((cnt p i : Nat) : Int) by omega), if_pos (show (0 : Int) ≤ (j : Int) by omega), chs_len, chs_rd (p := p) (i := i) (show j < cnt p i by omega), en]
        rw [wid (n := (j : Int) + 1) (by omega) (by omega)]
        simp only [sumF] at nx
        by_cases hcb : fch p i + (j : Int) = b
        · simp only [if_pos hcb]
          rw [if_pos hcb, Int.add_zero] at nx
          exact nx
        · simp only [if_neg hcb]
          rw [if_neg hcb, ← Int.add_assoc] at nx
          refine Ev.bind (ih (m + 1) (fch p i + j) i (by omega) c2 (by omega)) ?_
          have b1 := SF_bd hp hf n (fch p i + j) i
          have b2 := sumF_bd (g := fun j => if fch p i + (j : Int) = b then 0 else SF p f n (fch p i + j) i) (M := 1000000 * 9 ^ n) (n := j) (fun j _ => by
            split
            · omega
            · exact SF_bd hp hf n _ _)
          have b3 := Int.mul_le_mul_of_nonneg_right (show ((j : Nat) : Int) ≤ 8 by omega) (show (0 : Int) ≤ 1000000 * 9 ^ n by omega)
          rw [wid (n := b0 + sumF (fun j => if fch p i + (j : Int) = b then 0 else SF p f n (fch p i + j) i) j + SF p f n (fch p i + j) i) (by omega) (by omega)]
          exact nx
    have j1 : ∀ b0 : Int, (-729000000 ≤ b0 ∧ b0 ≤ 729000000) → Ev (fun k => impl_sumFar.j1 k p f i ((n + 1 : Nat) : Int) b b0) (b0 + sumF (fun j => if fch p i + (j : Int) = b then 0 else SF p f n (fch p i + j) i) (cnt p i)) := by
      intro b0 hb
      refine Ev.up ?_
      simp only [impl_sumFar.j1]
      refine Ev.bind hc ?_
      rw [chs_len]
      have := loop b0 hb (cnt p i) 0 (by omega)
      simp only [sumF, Int.add_zero] at this
      exact this
    simp only [SF]
    refine Ev.up ?_
    simp only [impl_sumFar.f, if_neg (show ¬ ((n + 1 : Nat) : Int) = 0 by omega)]
    by_cases hi : i > 0
    · obtain ⟨b1, b2⟩ := par_lt (p := p) (i := i) hp2 (by omega)
      simp only [if_pos hi]
      have hpe := impl_parent_eq (i := i) hp h0 (by omega)
      refine Ev.bindv hpe ?_
      by_cases hb : par p i = b
      · rw [show (par p i != b) = false from bne_eq_false_iff_eq.2 hb, if_neg (fun h => h.2 hb)]
        refine Ev.up ?_
        simp only [impl_sumFar.j0, Bool.false_eq_true, if_false]
        exact j1 0 (by omega)
      · rw [show (par p i != b) = true from bne_iff_ne.2 hb, if_pos ⟨hi, hb⟩]
        refine Ev.up ?_
        simp only [impl_sumFar.j0, if_true, en]
        refine Ev.bindv hpe (Ev.bind (ih (m + 1) (par p i) i b1 (by omega) (by omega)) ?_)
        have := SF_bd hp hf n (par p i) i
        exact j1 _ (by omega)
    · simp only [if_neg hi]
      rw [if_neg (fun h => hi h.1)]
      refine Ev.up ?_
      simp only [impl_sumFar.j0, Bool.false_eq_true, if_false]
      exact j1 0 (by omega)
include hp hR hl hf h5 in
theorem spec_far_ev (n : Nat) : ∀ (m : Nat) (i b : Int), 0 ≤ i → i < sz p m → m + n ≤ R → Ev (fun k => spec_l07Sphere.f k p f i b n) (SF p f n i b) := by
  have hp2 := prime_lo hp
  induction n with
  | zero =>
    intro m i b h0 h1 hm
    have := sz_mono hp2 (show m ≤ R by omega)
    refine Ev.up ?_
    simp only [spec_l07Sphere.f, if_pos (show ((0 : Nat) : Int) = 0 from rfl), if_pos h0, if_pos (show i < (f.length : Int) by omega), SF]; exact Ev.now _
  | succ n ih =>
    intro m i b h0 h1 hm
    have hmR := sz_mono hp2 (show m ≤ R by omega)
    have hm1 := sz_mono hp2 (show m ≤ m + 1 by omega)
    have hc := spec_child_eq (p := p) (i := i) hp h0 (by omega)
    have h8 := cnt_le (prime_hi hp) i
    have h9 : (9 : Int) ^ n ≤ 729 := by
      have : n = 0 ∨ n = 1 ∨ n = 2 ∨ n = 3 := by omega
      rcases this with rfl | rfl | rfl | rfl <;> decide
    have h90 : (1 : Int) ≤ 9 ^ n := Int.pow_pos (by omega)
    have en : wrap64 (((n + 1 : Nat) : Int) - 1) = (n : Int) := by rw [wid (by omega) (by omega)]; omega
    have loop : ∀ b0 : Int, (-729000000 ≤ b0 ∧ b0 ≤ 729000000) → ∀ e j : Nat, j + e = cnt p i → Ev (fun k => spec_l07Sphere.l0 k p f i b ((n + 1 : Nat) : Int) (b0 + sumF (fun j => if fch p i + (j : Int) = b then 0 else SF p f n (fch p i + j) i) j) (fch p i) (cnt p i) j) (b0 + sumF (fun j => if fch p i + (j : Int) = b then 0 else SF p f n (fch p i + j) i) (cnt p i)) := by
      intro b0 hb e
      induction e with
      | zero =>
        intro j hj
        obtain rfl : j = cnt p i := by omega
        refine Ev.up ?_
        simp only [spec_l07Sphere.l0, if_neg (show ¬ ((cnt p i : Nat) : Int) < ((cnt p i : Nat) : Int) by omega)]; exact Ev.now _
      | succ e ih2 =>
        intro j hj
        obtain ⟨c1, c2⟩ := child_lt (p := p) (i := i) (j := j) (m := m) hp2 h0 h1 (by omega)
        have hm1R := sz_mono hp2 (show m + 1 ≤ R by omega)
        have nx := ih2 (j + 1) (by omega)
        refine Ev.up ?_
        simp only [spec_l07Sphere.l0, if_pos (show (j : Int) < ((cnt p i : Nat) : Int) by omega), en]
        rw [wid (n := (j : Int) + 1) (by omega) (by omega), wid (n := fch p i + (j : Int)) (by omega) (by omega)]
        simp only [sumF] at nx
        by_cases hcb : fch p i + (j : Int) = b
        · simp only [if_pos hcb]
          rw [if_pos hcb, Int.add_zero] at nx
          exact nx
        · simp only [if_neg hcb]
          rw [if_neg hcb, ← Int.add_assoc] at nx
          refine Ev.bind (ih (m + 1) (fch p i + j) i (by omega) c2 (by omega)) ?_
          have b1 := SF_bd hp hf n (fch p i + j) i
          have b2 := sumF_bd (g := fun j => if fch p i + (j : Int) = b then 0 else SF p f n (fch p i + j) i) (M := 1000000 * 9 ^ n) (n := j) (fun j _ => by
            split
            · omega
            · exact SF_bd hp hf n _ _)
          have b3 := Int.mul_le_mul_of_nonneg_right (show ((j : Nat) : Int) ≤ 8 by omega) (show (0 : Int) ≤ 1000000 * 9 ^ n by omega)
          rw [wid (n := b0 + sumF (fun j => if fch p i + (j : Int) = b then 0 else SF p f n (fch p i + j) i) j + SF p f n (fch p i + j) i) (by omega) (by omega)]
          exact nx
    have j1 : ∀ b0 : Int, (-729000000 ≤ b0 ∧ b0 ≤ 729000000) → Ev (fun k => spec_l07Sphere.j1 k p f i b ((n + 1 : Nat) : Int) b0) (b0 + sumF (fun j => if fch p i + (j : Int) = b then 0 else SF p f n (fch p i + j) i) (cnt p i)) := by
      intro b0 hb
      refine Ev.up ?_
      simp only [spec_l07Sphere.j1]
      refine Ev.bindv hc ?_
      have := loop b0 hb (cnt p i) 0 (by omega)
      simp only [sumF, Int.add_zero] at this
      exact this
    simp only [SF]
    refine Ev.up ?_
    simp only [spec_l07Sphere.f, if_neg (show ¬ ((n + 1 : Nat) : Int) = 0 by omega)]
    by_cases hi : i > 0
    · obtain ⟨b1, b2⟩ := par_lt (p := p) (i := i) hp2 (by omega)
      simp only [if_pos hi]
      have hpe := spec_parent_eq (i := i) hp h0 (by omega)
      refine Ev.bindv hpe ?_
      by_cases hb : par p i = b
      · rw [show (par p i != b) = false from bne_eq_false_iff_eq.2 hb, if_neg (fun h => h.2 hb)]
        refine Ev.up ?_
        simp only [spec_l07Sphere.j0, Bool.false_eq_true, if_false]
        exact j1 0 (by omega)
      · rw [show (par p i != b) = true from bne_iff_ne.2 hb, if_pos ⟨hi, hb⟩]
        refine Ev.up ?_
        simp only [spec_l07Sphere.j0, if_true, en]
        refine Ev.bindv hpe (Ev.bind (ih (m + 1) (par p i) i b1 (by omega) (by omega)) ?_)
        have := SF_bd hp hf n (par p i) i
        exact j1 _ (by omega)
    · simp only [if_neg hi]
      rw [if_neg (fun h => hi h.1)]
      refine Ev.up ?_
      simp only [spec_l07Sphere.j0, Bool.false_eq_true, if_false]
      exact j1 0 (by omega)
end
def sphs (p : Int) (f : List Int) (m n : Nat) : List Int := (List.range (sz p m).toNat).map (fun (i : Nat) => SF p f n (i : Int) (-1))
theorem sphs_len (p : Int) (f : List Int) (m n : Nat) : (sphs p f m n).length = (sz p m).toNat := by simp [sphs]
theorem rd_sphs {p : Int} {f : List Int} {m n i : Nat} (h : i < (sz p m).toNat) : rd (sphs p f m n) (i : Int) = SF p f n (i : Int) (-1) := rd_range _ h
section
variable {p r n : Int} {f : List Int} (h : lcW p r f 0 = 0) (hn : 0 ≤ n ∧ n ≤ r)
include h hn in
theorem sph_loops (d : Nat) : ∀ i : Nat, i + d = (sz p (r - n).toNat).toNat → Ev (fun k => impl_SphereSums.l0 k p f n ((List.range i).map (fun (i : Nat) => SF p f n.toNat (i : Int) (-1))) (sz p (r - n).toNat) i) (sphs p f (r - n).toNat n.toNat, 0) ∧ Ev (fun k => spec_SphereSums.l0 k p r f n ((List.range i).map (fun (i : Nat) => SF p f n.toNat (i : Int) (-1))) i) (sphs p f (r - n).toNat n.toNat, 0) := by
  obtain ⟨o1, o2, o3, o4, o5⟩ := lcW_ok h
  have hp2 := prime_lo o1
  have hz := sz_bd o1 (n := (r - n).toNat) (by omega)
  have en : wrap64 (r - n) = ((r - n).toNat : Int) := by rw [wid (by omega) (by omega)]; omega
  have hsz := spec_size_ev o1 (n := (r - n).toNat) (by omega)
  induction d with
  | zero =>
    intro i hi
    constructor
    · refine Ev.up ?_
      simp only [impl_SphereSums.l0, if_neg (show ¬ (i : Int) < sz p (r - n).toNat by omega)]
      rw [show i = (sz p (r - n).toNat).toNat from by omega]; exact Ev.now _
    · refine Ev.up ?_
      simp only [spec_SphereSums.l0, en]
      refine Ev.bind hsz ?_
      simp only [if_neg (show ¬ (i : Int) < sz p (r - n).toNat by omega)]
      rw [show i = (sz p (r - n).toNat).toNat from by omega]; exact Ev.now _
  | succ d ih =>
    intro i hi
    obtain ⟨i1, i2⟩ := ih (i + 1) (by omega)
    rw [List.range_succ, List.map_append, show ((i + 1 : Nat) : Int) = (i : Int) + 1 from by omega] at i1 i2
    have f1 := impl_far_ev (R := r.toNat) o1 (by omega) (by omega) o4 o5 n.toNat (r - n).toNat i (-1) (by omega) (by omega) (by omega)
    have f2 := spec_far_ev (R := r.toNat) o1 (by omega) (by omega) o4 o5 n.toNat (r - n).toNat i (-1) (by omega) (by omega) (by omega)
    rw [Int.toNat_of_nonneg hn.1] at f1 f2
    constructor
    · refine Ev.up ?_
      simp only [impl_SphereSums.l0, if_pos (show (i : Int) < sz p (r - n).toNat by omega)]
      refine Ev.bind f1 ?_
      simp only [List.length_map, List.length_range, if_pos (show i < 17592186044416 by omega)]
      rw [wid (n := (i : Int) + 1) (by omega) (by omega)]
      exact i1
    · refine Ev.up ?_
      simp only [spec_SphereSums.l0, en]
      refine Ev.bind hsz ?_
      simp only [if_pos (show (i : Int) < sz p (r - n).toNat by omega)]
      refine Ev.bind f2 ?_
      simp only [List.length_map, List.length_range, if_pos (show i < 17592186044416 by omega)]
      rw [wid (n := (i : Int) + 1) (by omega) (by omega)]
      exact i2
end
theorem impl_sph_ok {p r n : Int} {f : List Int} (h : lcW p r f 0 = 0) (hn : 0 ≤ n ∧ n ≤ r) : Ev (fun k => impl_SphereSums.f k p r f n) (sphs p f (r - n).toNat n.toNat, 0) := by
  have hi := impl_listCode_ev (p := p) (r := r) (least := 0) (l := f) (less := 0) (by omega) (by omega)
  obtain ⟨o1, o2, o3, o4, o5⟩ := lcW_ok h
  rw [if_neg (fun h2 => by omega), h] at hi
  unfold impl_SphereSums.f
  refine Ev.bind hi ?_
  simp only [if_neg (show ¬ (0 : Int) = 1 by decide), show ((0 : Int) == 2) = false from rfl]
  refine Ev.up ?_
  simp only [impl_SphereSums.j0, Bool.false_eq_true, if_false, if_neg (show ¬ n < 0 by omega), decide_eq_false (show ¬ n > r by omega)]
  refine Ev.up ?_
  simp only [impl_SphereSums.j1, Bool.false_eq_true, if_false, if_true]
  rw [wid (n := r - n) (by omega) (by omega)]
  have := impl_size_ev o1 (n := (r - n).toNat) (by omega)
  rw [Int.toNat_of_nonneg (by omega)] at this
  refine Ev.bind this ?_
  exact (sph_loops h hn (sz p (r - n).toNat).toNat 0 (by omega)).1
theorem sph_both (p r n : Int) (f : List Int) (hlen : f.length ≤ 4611686018427387904) : ∃ q : List Int × Int, Ev (fun k => impl_SphereSums.f k p r f n) q ∧ Ev (fun k => spec_SphereSums.f k p r f n) q ∧ q.1.length ≤ 3201 ∧ (q.2 = 0 → lcW p r f 0 = 0 ∧ (0 ≤ n ∧ n ≤ r) ∧ q.1 = sphs p f (r - n).toNat n.toNat) := by
  have hi := impl_listCode_ev (p := p) (r := r) (least := 0) (l := f) (less := 0) (by omega) (by omega)
  have hs := spec_l07List_ev (p := p) (r := r) (l := f) (less := 0) (by omega) hlen
  have e0 : (if primeB p = true ∧ r < 0 then 2 else lcW p r f 0) = lcW p r f 0 := by
    by_cases h : primeB p = true ∧ r < 0
    · rw [if_pos h]; unfold lcW; rw [if_pos h.1, if_neg (fun h2 => by omega)]
    · rw [if_neg h]
  rw [e0] at hi
  have hx := lcW_cases p r f 0
  have ij1 : ∀ x : Int, Ev (fun k => impl_SphereSums.j1 k p r f n x true) (([] : List Int), 2) := fun x => by refine Ev.up ?_; simp only [impl_SphereSums.j1, if_true]; exact Ev.now _
  have sj1 : ∀ x : Int, x ≠ 0 → Ev (fun k => spec_SphereSums.j1 k p r f n x) (([] : List Int), x) := fun x hx => by refine Ev.up ?_; simp only [spec_SphereSums.j1, if_neg hx]; exact Ev.now _
  by_cases hn : 0 ≤ n ∧ n ≤ r
  · by_cases h0 : lcW p r f 0 = 0
    · obtain ⟨o1, o2, o3, o4, o5⟩ := lcW_ok h0
      have hz := sz_bd o1 (n := (r - n).toNat) (by omega)
      have hl := sphs_len p f (r - n).toNat n.toNat
      refine ⟨(sphs p f (r - n).toNat n.toNat, 0), impl_sph_ok h0 hn, ?_, by show (sphs p f (r - n).toNat n.toNat).length ≤ 3201; omega, fun _ => ⟨h0, hn, rfl⟩⟩
      unfold spec_SphereSums.f
      refine Ev.bind hs ?_
      simp only [if_pos h0]
      refine Ev.bindv (In_eq _ _ _) ?_
      rw [decide_eq_true hn, h0]
      refine Ev.up ?_
      simp only [spec_SphereSums.j0, Bool.not_true, Bool.false_eq_true, if_false]
      refine Ev.up ?_
      simp only [spec_SphereSums.j1, if_true]
      exact (sph_loops h0 hn (sz p (r - n).toNat).toNat 0 (by omega)).2
    · refine ⟨([], lcW p r f 0), ?_, ?_, by simp, fun h => absurd h h0⟩
      · unfold impl_SphereSums.f
        refine Ev.bind hi ?_
        have j1f : Ev (fun k => impl_SphereSums.j1 k p r f n (lcW p r f 0) false) (([] : List Int), lcW p r f 0) := by refine Ev.up ?_; simp only [impl_SphereSums.j1, Bool.false_eq_true, if_false, if_neg h0]; exact Ev.now _
        have j0t : Ev (fun k => impl_SphereSums.j0 k p r f n (lcW p r f 0) true) (([] : List Int), lcW p r f 0) := by refine Ev.up ?_; simp only [impl_SphereSums.j0, if_true]; exact Ev.now _
        have j0f : Ev (fun k => impl_SphereSums.j0 k p r f n (lcW p r f 0) false) (([] : List Int), lcW p r f 0) := by
          refine Ev.up ?_; simp only [impl_SphereSums.j0, Bool.false_eq_true, if_false, if_neg (show ¬ n < 0 by omega), decide_eq_false (show ¬ n > r by omega)]; exact j1f
        by_cases h1 : lcW p r f 0 = 1
        · simp only [if_pos h1]; exact j0t
        · simp only [if_neg h1]
          cases lcW p r f 0 == 2
          · exact j0f
          · exact j0t
      · unfold spec_SphereSums.f
        refine Ev.bind hs ?_
        simp only [if_neg h0]
        by_cases h3 : lcW p r f 0 = 3
        · simp only [if_pos h3]
          refine Ev.bindv (In_eq _ _ _) ?_
          rw [decide_eq_true hn]
          refine Ev.up ?_
          simp only [spec_SphereSums.j0, Bool.not_true, Bool.false_eq_true, if_false]
          exact sj1 _ h0
        · simp only [if_neg h3]
          refine Ev.up ?_
          simp only [spec_SphereSums.j0, Bool.false_eq_true, if_false]
          exact sj1 _ h0
  · -- the distance is out of range
    have hout : ∀ x : Int, Ev (fun k => if n < 0 then impl_SphereSums.j1 k p r f n x true else impl_SphereSums.j1 k p r f n x (decide (n > r))) (([] : List Int), 2) := by
      intro x
      by_cases h0 : n < 0
      · simp only [if_pos h0]; exact ij1 x
      · simp only [if_neg h0, decide_eq_true (show n > r by omega)]; exact ij1 x
    have j0f : ∀ x : Int, Ev (fun k => impl_SphereSums.j0 k p r f n x false) (([] : List Int), 2) := fun x => by
      refine Ev.up ?_; simp only [impl_SphereSums.j0, Bool.false_eq_true, if_false]; exact hout x
    have j0t : ∀ x : Int, Ev (fun k => impl_SphereSums.j0 k p r f n x true) (([] : List Int), x) := fun x => by refine Ev.up ?_; simp only [impl_SphereSums.j0, if_true]; exact Ev.now _
    have sj0 : ∀ x : Int, Ev (fun k => spec_SphereSums.j0 k p r f n x true) (([] : List Int), 2) := fun x => by refine Ev.up ?_; simp only [spec_SphereSums.j0, if_true]; exact sj1 2 (by decide)
    have sj0f : ∀ x : Int, x ≠ 0 → Ev (fun k => spec_SphereSums.j0 k p r f n x false) (([] : List Int), x) := fun x hx => by refine Ev.up ?_; simp only [spec_SphereSums.j0, Bool.false_eq_true, if_false]; exact sj1 x hx
    refine ⟨([], if lcW p r f 0 = 1 then 1 else 2), ?_, ?_, by simp, fun h => by exfalso; revert h; simp only; split <;> omega⟩
    · unfold impl_SphereSums.f
      refine Ev.bind hi ?_
      rcases hx with h | h | h | h <;> rw [h]
      · exact j0f 0
      · exact j0t 1
      · exact j0t 2
      · exact j0f 3
    · unfold spec_SphereSums.f
      refine Ev.bind hs ?_
      rcases hx with h | h | h | h <;> rw [h]
      · simp only [if_true, if_neg (show ¬ (0 : Int) = 1 by decide)]
        refine Ev.bindv (In_eq _ _ _) ?_
        rw [decide_eq_false hn]; exact sj0 0
      · exact sj0f 1 (by decide)
      · exact sj0f 2 (by decide)
      · simp only [if_neg (show ¬ (3 : Int) = 0 by decide), if_true, if_neg (show ¬ (3 : Int) = 1 by decide)]
        refine Ev.bindv (In_eq _ _ _) ?_
        rw [decide_eq_false hn]; exact sj0 3

structure okS (c : List Int) (q : Int) : Prop where
  b : ∀ x ∈ c, 0 ≤ x ∧ x ≤ 255
  l : c.length ≤ 5000
  p : 0 ≤ q ∧ q ≤ c.length
theorem mask34 {n : Int} (h0 : 0 ≤ n) (h1 : n < 18446744073709551616) : Go.bits .and .u64 n 17179869183 = n % 17179869184 := by
  obtain ⟨m, rfl⟩ : ∃ m : Nat, n = (m : Int) := ⟨n.toNat, by omega⟩
  have h := Go.bits_and_u64_nat m 17179869183 (by omega) (by omega)
  have e : m &&& 17179869183 = m % 17179869184 := Nat.and_two_pow_sub_one_eq_mod m 34
  rw [e] at h
  rw [show ((17179869183 : Nat) : Int) = 17179869183 from rfl] at h
  rw [h]; omega
theorem next_ok {c : List Int} {q : Int} (S : okS c q) (h a : Int) : ∃ v q' h', spec_l01Next.f c q h a = some (v, q', h') ∧ okS c q' ∧ 0 ≤ v ∧ (1 ≤ a → v < a) := by
  have Sl := S.l
  have Sp := S.p
  unfold spec_l01Next.f
  by_cases h1 : a < 1
  · rw [if_pos h1]; exact ⟨0, q, h, rfl, S, by omega, by omega⟩
  rw [if_neg h1]
  obtain ⟨w, hw⟩ : ∃ w, w = IntKind.u64.wrap (IntKind.u64.wrap (h * 6364136223846793005) + 1442695040888963407) := ⟨_, rfl⟩
  have hw0 : 0 ≤ w ∧ w < 18446744073709551616 := by rw [hw, IntKind.wrap_u64]; omega
  rw [← hw, mask34 (by omega) (by omega), wid (n := w / 8388608 % 17179869184) (by omega) (by omega)]
  by_cases h2 : q < (c.length : Int)
  · have hb : 0 ≤ rd c q ∧ rd c q ≤ 255 := by
      obtain ⟨m, rfl⟩ : ∃ m : Nat, q = (m : Int) := ⟨q.toNat, by omega⟩
      rw [rd_nat c m (by omega)]; exact S.b _ (List.getElem_mem _)
    rw [if_pos h2, if_pos Sp.1, if_neg (show ¬ a = 0 by omega), wid (n := rd c q) (by omega) (by omega), wid (n := w / 8388608 % 17179869184 + rd c q) (by omega) (by omega), wid (n := q + 1) (by omega) (by omega), tmod_cast (by omega)]
    exact ⟨_, _, _, rfl, ⟨S.b, S.l, by omega⟩, Int.emod_nonneg _ (by omega), fun _ => Int.emod_lt_of_pos _ (by omega)⟩
  · rw [if_neg h2, if_neg (show ¬ a = 0 by omega), tmod_cast (by omega)]
    exact ⟨_, _, _, rfl, S, Int.emod_nonneg _ (by omega), fun _ => Int.emod_lt_of_pos _ (by omega)⟩
theorem pick_ok {c : List Int} {q : Int} (S : okS c q) (h : Int) (l : List Int) (hl : 1 ≤ l.length) : ∃ v q' h', spec_l01Pick.f c q h l = some (v, q', h') ∧ okS c q' := by
  obtain ⟨v, q', h', e, S', v0, v1⟩ := next_ok S h (l.length : Int)
  unfold spec_l01Pick.f
  rw [e]
  simp only [Option.bind_some, if_pos v0, if_pos (v1 (by omega))]
  exact ⟨_, _, _, rfl, S'⟩
theorem near_ok {c : List Int} {q : Int} (S : okS c q) (h a : Int) : ∃ v q' h', spec_l01Near.f c q h a = some (v, q', h') ∧ okS c q' := by
  obtain ⟨v, q', h', e, S', v0, v1⟩ := next_ok S h 14
  unfold spec_l01Near.f
  rw [e]
  simp only [Option.bind_some]
  by_cases hv : v = 0
  · rw [if_pos hv]
    obtain ⟨x, q2, h2, e2, S2⟩ := pick_ok S' h' [-1, wrap64 (a + 1), 1099511627776, -4611686018427387904] (by simp)
    rw [e2]; exact ⟨_, _, _, rfl, S2⟩
  · rw [if_neg hv]
    obtain ⟨x, q2, h2, e2, S2, _⟩ := next_ok S' h' (wrap64 (a + 1))
    rw [e2]; exact ⟨_, _, _, rfl, S2⟩
theorem from_ok {c : List Int} (hb : ∀ x ∈ c, 0 ≤ x ∧ x ≤ 255) (hl : c.length ≤ 5000) : ∃ h, Ev (fun k => spec_l01From.f k c) (c, 0, h) := by
  have key : ∀ d i : Nat, i + d = c.length → ∀ h, ∃ h', Ev (fun k => spec_l01From.l0 k c i c 0 h) (c, 0, h') := by
    intro d
    induction d with
    | zero =>
      intro i hi h
      refine ⟨h, Ev.up ?_⟩
      simp only [spec_l01From.l0, if_neg (show ¬ (i : Int) < (c.length : Int) by omega)]; exact Ev.now _
    | succ d ih =>
      intro i hi h
      by_cases h4 : (i : Int) < 4096
      · obtain ⟨h', e⟩ := ih (i + 1) (by omega) (IntKind.u64.wrap (IntKind.u64.wrap (IntKind.u64.wrap (h * 1099511628211) + IntKind.u64.wrap (rd c i)) + 71))
        refine ⟨h', Ev.up ?_⟩
        simp only [spec_l01From.l0, if_pos (show (i : Int) < (c.length : Int) by omega), if_pos h4, if_pos (show (0 : Int) ≤ (i : Int) by omega)]
        rw [wid (n := (i : Int) + 1) (by omega) (by omega)]
        exact e
      · refine ⟨h, Ev.up ?_⟩
        simp only [spec_l01From.l0, if_pos (show (i : Int) < (c.length : Int) by omega), if_neg h4]; exact Ev.now _
  unfold spec_l01From.f
  exact key c.length 0 (by omega) _
theorem sized_ok {c : List Int} {q : Int} (S : okS c q) (h : Int) : ∃ p r q' h', Ev (fun k => spec_l07Sized.f k c q h) (p, r, q', h') ∧ okS c q' := by
  have j0 : ∀ (p r q h : Int), okS c q → ∃ p' r' q' h', Ev (fun k => spec_l07Sized.j0 k p r c q h) (p', r', q', h') ∧ okS c q' := by
    intro p r q h S
    obtain ⟨v, q1, h1, e1, S1, _⟩ := next_ok S h 40
    obtain ⟨x2, q2, h2, e2, S2⟩ := pick_ok S1 h1 [4, 1] (by simp)
    obtain ⟨x3, q3, h3, e3, S3⟩ := pick_ok S1 h1 [0, 5, -1] (by simp)
    by_cases c0 : v = 0
    · refine ⟨x2, r, q2, h2, Ev.up ?_, S2⟩
      simp only [spec_l07Sized.j0, e1, Option.bind_some, if_pos c0, e2]; exact Ev.now _
    by_cases c1 : v = 1
    · refine ⟨p, x3, q3, h3, Ev.up ?_, S3⟩
      simp only [spec_l07Sized.j0, e1, Option.bind_some, if_neg c0, if_pos c1, e3]; exact Ev.now _
    by_cases c2 : v = 2
    · refine ⟨p, 4, q1, h1, Ev.up ?_, S1⟩
      simp only [spec_l07Sized.j0, e1, Option.bind_some, if_neg c0, if_neg c1, if_pos c2]; exact Ev.now _
    · refine ⟨p, r, q1, h1, Ev.up ?_, S1⟩
      simp only [spec_l07Sized.j0, e1, Option.bind_some, if_neg c0, if_neg c1, if_neg c2]; exact Ev.now _
  obtain ⟨x1, q1, h1, e1, S1⟩ := pick_ok S h [2, 2, 2, 3, 3, 5, 7] (by simp)
  obtain ⟨x2, q2, h2, e2, S2⟩ := pick_ok S1 h1 [1, 2, 2, 3] (by simp)
  unfold spec_l07Sized.f
  simp only [e1, e2, Option.bind_some]
  by_cases c1 : x1 > 3
  · obtain ⟨x3, q3, h3, e3, S3⟩ := pick_ok S2 h2 [1, 2] (by simp)
    simp only [if_pos c1, e3, Option.bind_some]
    exact j0 _ _ _ _ S3
  · simp only [if_neg c1]
    by_cases c2 : x1 = 2
    · obtain ⟨x3, q3, h3, e3, S3, _⟩ := next_ok S2 h2 3
      simp only [if_pos c2, e3, Option.bind_some]
      by_cases c3 : x3 = 0
      · simp only [if_pos c3]; exact j0 _ _ _ _ S3
      · simp only [if_neg c3]; exact j0 _ _ _ _ S3
    · simp only [if_neg c2]; exact j0 _ _ _ _ S2
theorem places_ok (p r : Int) : ∃ t, Ev (fun k => spec_l07Places.f k p r) t ∧ 1 ≤ t ∧ t ≤ 600 := by
  unfold spec_l07Places.f
  by_cases hp : primeB p = true
  · by_cases hr : 0 ≤ r ∧ r ≤ 4
    · obtain ⟨n, rfl⟩ : ∃ n : Nat, r = (n : Int) := ⟨r.toNat, by omega⟩
      have hz := sz_bd hp (n := n) (by omega)
      refine ⟨mn (sz p n) 600, ?_, by unfold mn; split <;> omega, by unfold mn; split <;> omega⟩
      refine Ev.bindv (spec_l01Prime_eq p) ?_
      rw [hp]; simp only [if_true]
      refine Ev.bindv (In_eq _ _ _) ?_
      rw [decide_eq_true hr]; simp only [if_true]
      exact Ev.bind (spec_size_ev hp (n := n) (by omega)) (Ev.now _)
    · refine ⟨3, ?_, by omega, by omega⟩
      refine Ev.bindv (spec_l01Prime_eq p) ?_
      rw [hp]; simp only [if_true]
      refine Ev.bindv (In_eq _ _ _) ?_
      rw [decide_eq_false hr]; simp only [Bool.false_eq_true, if_false]; exact Ev.now _
  · refine ⟨3, ?_, by omega, by omega⟩
    refine Ev.bindv (spec_l01Prime_eq p) ?_
    simp only [hp, Bool.false_eq_true, if_false]; exact Ev.now _
theorem numbers_ok {c : List Int} {q : Int} (S : okS c q) (h n : Int) (hn : -9223372036854775000 ≤ n ∧ n ≤ 600) : ∃ l q' h', Ev (fun k => spec_l07Numbers.f k c q h n) (l, q', h') ∧ okS c q' ∧ l.length ≤ 601 := by
  have key : ∀ (d : Nat) (n : Int) (acc : List Int) (m q h : Int), okS c q → -9223372036854775000 ≤ n → n ≤ d → acc.length + d ≤ 600 → ∃ l q' h', Ev (fun k => spec_l07Numbers.l0 k n acc m c q h) (l, q', h') ∧ okS c q' ∧ l.length ≤ 601 := by
    intro d
    induction d with
    | zero =>
      intro n acc m q h S hlo hn ha
      obtain ⟨v, q1, h1, e1, S1, _⟩ := next_ok S h 40
      by_cases c0 : v = 0
      · refine ⟨acc ++ [0], q1, h1, Ev.up ?_, S1, by simp; omega⟩
        simp only [spec_l07Numbers.l0, if_neg (show ¬ n > 0 by omega), e1, Option.bind_some, if_pos c0, if_pos (show acc.length < 17592186044416 by omega)]; exact Ev.now _
      by_cases c1 : v = 1
      · by_cases c2 : (acc.length : Int) > 0
        · obtain ⟨v2, q2, h2, e2, S2, v0, v1⟩ := next_ok S1 h1 (acc.length : Int)
          obtain ⟨x3, q3, h3, e3, S3⟩ := pick_ok S2 h2 [1000001, -1000001] (by simp)
          refine ⟨acc.set v2.toNat x3, q3, h3, Ev.up ?_, S3, by simp; omega⟩
          simp only [spec_l07Numbers.l0, if_neg (show ¬ n > 0 by omega), e1, Option.bind_some, if_neg c0, if_pos c1, if_pos c2, e2, e3, if_pos v0, if_pos (v1 (by omega))]; exact Ev.now _
        · refine ⟨acc, q1, h1, Ev.up ?_, S1, by omega⟩
          simp only [spec_l07Numbers.l0, if_neg (show ¬ n > 0 by omega), e1, Option.bind_some, if_neg c0, if_pos c1, if_neg c2]; exact Ev.now _
      · refine ⟨acc, q1, h1, Ev.up ?_, S1, by omega⟩
        simp only [spec_l07Numbers.l0, if_neg (show ¬ n > 0 by omega), e1, Option.bind_some, if_neg c0, if_neg c1]; exact Ev.now _
    | succ d ih =>
      intro n acc m q h S hlo hn ha
      by_cases h0 : n > 0
      · obtain ⟨v, q1, h1, e1, S1, _⟩ := next_ok S h (wrap64 (wrap64 (2 * m) + 1))
        obtain ⟨l, q', h', e, S', hl⟩ := ih (n - 1) (acc ++ [wrap64 (v - m)]) m q1 h1 S1 (by omega) (by omega) (by simp; omega)
        refine ⟨l, q', h', Ev.up ?_, S', hl⟩
        simp only [spec_l07Numbers.l0, if_pos h0, e1, Option.bind_some, if_pos (show acc.length < 17592186044416 by omega)]
        rw [wid (n := n - 1) (by omega) (by omega)]
        exact e
      · exact ih n acc m q h S hlo (by omega) (by omega)
  obtain ⟨x1, q1, h1, e1, S1⟩ := pick_ok S h [2, 5, 100, 1000000] (by simp)
  unfold spec_l07Numbers.f
  simp only [e1, Option.bind_some]
  exact key 600 n [] x1 q1 h1 S1 hn.1 (by omega) (by simp)
theorem boundary_ok {c : List Int} {q : Int} (S : okS c q) (h p r : Int) : ∃ l q' h', Ev (fun k => spec_l07Boundary.f k c q h p r) (l, q', h') ∧ okS c q' ∧ l.length ≤ 3202 := by
  have key : ∀ (d : Nat) (n : Int) (i : Nat) (acc : List Int) (s q h : Int), okS c q → n ≤ 3201 → n ≤ i + d → acc.length + d ≤ 3201 → i ≤ 3201 → ∃ l q' h', Ev (fun k => spec_l07Boundary.l0 k n acc s i c q h) (l, q', h') ∧ okS c q' ∧ l.length ≤ 3202 := by
    intro d
    induction d with
    | zero =>
      intro n i acc s q h S hn hi ha hi2
      obtain ⟨v, q1, h1, e1, S1, _⟩ := next_ok S h 8
      by_cases c0 : v = 0
      · obtain ⟨x3, q3, h3, e3, S3⟩ := pick_ok S1 h1 [wrap64 (s - 1), 1000001] (by simp)
        refine ⟨acc ++ [wrap64 (-x3)], q3, h3, Ev.up ?_, S3, by simp; omega⟩
        simp only [spec_l07Boundary.l0, if_neg (show ¬ (i : Int) < n by omega), e1, Option.bind_some, if_pos c0, e3, if_pos (show acc.length < 17592186044416 by omega)]; exact Ev.now _
      · refine ⟨acc ++ [wrap64 (-s)], q1, h1, Ev.up ?_, S1, by simp; omega⟩
        simp only [spec_l07Boundary.l0, if_neg (show ¬ (i : Int) < n by omega), e1, Option.bind_some, if_neg c0, if_pos (show acc.length < 17592186044416 by omega)]; exact Ev.now _
    | succ d ih =>
      intro n i acc s q h S hn hi ha hi2
      by_cases h0 : (i : Int) < n
      · obtain ⟨v, q1, h1, e1, S1, _⟩ := next_ok S h 9
        obtain ⟨l, q', h', e, S', hl⟩ := ih n (i + 1) (acc ++ [wrap64 (v - 4)]) (wrap64 (s + wrap64 (v - 4))) q1 h1 S1 hn (by omega) (by simp; omega) (by omega)
        refine ⟨l, q', h', Ev.up ?_, S', hl⟩
        simp only [spec_l07Boundary.l0, if_pos h0, e1, Option.bind_some, if_pos (show acc.length < 17592186044416 by omega)]
        rw [wid (n := (i : Int) + 1) (by omega) (by omega)]
        exact e
      · have hlast : ∃ d', d' = 0 := ⟨0, rfl⟩
        obtain ⟨v, q1, h1, e1, S1, _⟩ := next_ok S h 8
        by_cases c0 : v = 0
        · obtain ⟨x3, q3, h3, e3, S3⟩ := pick_ok S1 h1 [wrap64 (s - 1), 1000001] (by simp)
          refine ⟨acc ++ [wrap64 (-x3)], q3, h3, Ev.up ?_, S3, by simp; omega⟩
          simp only [spec_l07Boundary.l0, if_neg h0, e1, Option.bind_some, if_pos c0, e3, if_pos (show acc.length < 17592186044416 by omega)]; exact Ev.now _
        · refine ⟨acc ++ [wrap64 (-s)], q1, h1, Ev.up ?_, S1, by simp; omega⟩
          simp only [spec_l07Boundary.l0, if_neg h0, e1, Option.bind_some, if_neg c0, if_pos (show acc.length < 17592186044416 by omega)]; exact Ev.now _
  have j1 : ∀ n : Int, n ≤ 3201 → ∃ l q' h', Ev (fun k => spec_l07Boundary.j1 k n c q h) (l, q', h') ∧ okS c q' ∧ l.length ≤ 3202 := by
    intro n hn
    obtain ⟨l, q', h', e, S', hl⟩ := key 3200 n 1 [] 0 q h S hn (by omega) (by simp) (by omega)
    refine ⟨l, q', h', Ev.up ?_, S', hl⟩
    simp only [spec_l07Boundary.j1]; exact e
  have hcode := spec_l07Code_ev p r
  unfold spec_l07Boundary.f
  have j0f : ∃ l q' h', Ev (fun k => spec_l07Boundary.j0 k p r 3 false c q h) (l, q', h') ∧ okS c q' ∧ l.length ≤ 3202 := by
    obtain ⟨l, q', h', e, S', hl⟩ := j1 3 (by omega)
    refine ⟨l, q', h', Ev.up ?_, S', hl⟩
    simp only [spec_l07Boundary.j0, Bool.false_eq_true, if_false]; exact e
  obtain ⟨t, ht⟩ : ∃ t, t = (if primeB p = true then (if 0 ≤ r ∧ r ≤ 4 then (if sz p r.toNat > 500 then (3 : Int) else 0) else 2) else 1) := ⟨_, rfl⟩
  rw [← ht] at hcode
  by_cases h0 : t = 0
  · by_cases hr : r > 0
    · have hp : primeB p = true := by
        rcases Bool.eq_false_or_eq_true (primeB p) with h | h
        · exact h
        · rw [h] at ht; simp at ht; omega
      have hr4 : 0 ≤ r ∧ r ≤ 4 := by
        by_cases h : 0 ≤ r ∧ r ≤ 4
        · exact h
        · rw [if_pos hp, if_neg h] at ht; omega
      have e1 := spec_size_ev hp (n := r.toNat) (by omega)
      have e2 := spec_size_ev hp (n := (r - 1).toNat) (by omega)
      have z1 := sz_bd hp (n := r.toNat) (by omega)
      have z2 := sz_bd hp (n := (r - 1).toNat) (by omega)
      rw [Int.toNat_of_nonneg (by omega)] at e1 e2
      obtain ⟨l, q', h', e, S', hl⟩ := j1 (sz p r.toNat - sz p (r - 1).toNat) (by omega)
      refine ⟨l, q', h', Ev.bind hcode ?_, S', hl⟩
      simp only [if_pos h0, decide_eq_true hr]
      refine Ev.up ?_
      simp only [spec_l07Boundary.j0, if_true]
      rw [wid (n := r - 1) (by omega) (by omega)]
      refine Ev.bind e1 (Ev.bind e2 ?_)
      rw [wid (n := sz p r.toNat - sz p (r - 1).toNat) (by omega) (by omega)]
      exact e
    · obtain ⟨l, q', h', e, S', hl⟩ := j0f
      refine ⟨l, q', h', Ev.bind hcode ?_, S', hl⟩
      simp only [if_pos h0, decide_eq_false hr]; exact e
  · obtain ⟨l, q', h', e, S', hl⟩ := j0f
    refine ⟨l, q', h', Ev.bind hcode ?_, S', hl⟩
    simp only [if_neg h0]; exact e
theorem flowOf_ok (p r : Int) (v : List Int) (hv : v.length ≤ 3202) : ∃ q : List Int × Int, Ev (fun k => spec_FlowOfBoundary.f k p r v) q ∧ q.1.length ≤ 3201 ∧ (q.2 = 0 → 1 ≤ q.1.length) := by
  have hcode := spec_l07Code_ev p r
  obtain ⟨t, ht⟩ : ∃ t, t = (if primeB p = true then (if 0 ≤ r ∧ r ≤ 4 then (if sz p r.toNat > 500 then (3 : Int) else 0) else 2) else 1) := ⟨_, rfl⟩
  rw [← ht] at hcode
  unfold spec_FlowOfBoundary.f
  have j0t : ∀ x : Int, Ev (fun k => spec_FlowOfBoundary.j0 k p r v x true) (([] : List Int), 2) := fun x => by refine Ev.up ?_; simp only [spec_FlowOfBoundary.j0, if_true]; exact Ev.now _
  by_cases t1 : t = 1
  · refine ⟨([], t), Ev.bind hcode ?_, by simp, fun h => by simp only at h; omega⟩
    simp only [if_pos t1]; exact Ev.now _
  by_cases t2 : t = 2
  · refine ⟨([], 2), Ev.bind hcode ?_, by simp, fun h => by simp at h⟩
    simp only [if_neg t1, if_pos t2]; exact j0t t
  by_cases hr : r < 1
  · refine ⟨([], 2), Ev.bind hcode ?_, by simp, fun h => by simp at h⟩
    simp only [if_neg t1, if_neg t2, if_pos hr]; exact j0t t
  have hp : primeB p = true := by
    rcases Bool.eq_false_or_eq_true (primeB p) with h | h
    · exact h
    · rw [h] at ht; simp at ht; omega
  have hr4 : 0 ≤ r ∧ r ≤ 4 := by
    by_cases h : 0 ≤ r ∧ r ≤ 4
    · exact h
    · rw [if_pos hp, if_neg h] at ht; omega
  have hp2 := prime_lo hp
  have e1 := spec_size_ev hp (n := r.toNat) (by omega)
  have e2 := spec_size_ev hp (n := (r - 1).toNat) (by omega)
  have z1 := sz_bd hp (n := r.toNat) (by omega)
  have z2 := sz_bd hp (n := (r - 1).toNat) (by omega)
  have z3 : sz p r.toNat = p * sz p (r - 1).toNat + 2 := by rw [show r.toNat = (r - 1).toNat + 1 from by omega]; rfl
  have z4 := Int.mul_le_mul_of_nonneg_right hp2 (show 0 ≤ sz p (r - 1).toNat by omega)
  rw [Int.toNat_of_nonneg (by omega)] at e1 e2
  have pre : ∀ q, Ev (fun k => if (v.length : Int) = sz p r.toNat - sz p (r - 1).toNat then (spec_l07Values.f k v).bind fun x => spec_FlowOfBoundary.j0 k p r v t (!x) else spec_FlowOfBoundary.j0 k p r v t true) q → Ev (fun k => (spec_l07Code.f k p r).bind fun t155 => if t155 = 1 then some (([] : List Int), t155) else if t155 = 2 then spec_FlowOfBoundary.j0 k p r v t155 true else if r < 1 then spec_FlowOfBoundary.j0 k p r v t155 true else (spec_l07Size.f k p r).bind fun t156 => (spec_l07Size.f k p (wrap64 (r - 1))).bind fun t157 => if (v.length : Int) = wrap64 (t156 - t157) then (spec_l07Values.f k v).bind fun t158 => spec_FlowOfBoundary.j0 k p r v t155 (!t158) else spec_FlowOfBoundary.j0 k p r v t155 true) q := by
    intro q hq
    refine Ev.bind hcode ?_
    simp only [if_neg t1, if_neg t2, if_neg hr]
    rw [wid (n := r - 1) (by omega) (by omega)]
    refine Ev.bind e1 (Ev.bind e2 ?_)
    rw [wid (n := sz p r.toNat - sz p (r - 1).toNat) (by omega) (by omega)]
    exact hq
  by_cases hlen : (v.length : Int) = sz p r.toNat - sz p (r - 1).toNat
  · have hval := spec_values_ev (l := v) (by omega)
    cases hb : inB v with
    | false =>
      refine ⟨([], 2), pre _ ?_, by simp, fun h => by simp at h⟩
      simp only [if_pos hlen]
      refine Ev.bind hval ?_
      rw [hb]; exact j0t t
    | true =>
      by_cases t0 : t = 0
      · -- the sum, then the flow
        have l1 : ∀ (d : Nat) (all : List Int), (all.length : Int) = sz p r.toNat → (d : Int) < sz p r.toNat → ∃ q : List Int × Int, Ev (fun k => spec_FlowOfBoundary.l1 k p v (sz p (r - 1).toNat) all d) q ∧ q.1.length ≤ 3201 ∧ (q.2 = 0 → 1 ≤ q.1.length) := by
          intro d
          induction d with
          | zero =>
            intro all ha hd
            have hdl : (all.drop 1).length = all.length - 1 := by simp
            have hvv := spec_values_ev (l := all.drop 1) (by omega)
            refine ⟨if inB (all.drop 1) = true then (all.drop 1, 0) else ([], 3), Ev.up ?_, ?_, ?_⟩
            · simp only [spec_FlowOfBoundary.l1, if_neg (show ¬ ((0 : Nat) : Int) > 0 by omega), if_pos (show 1 ≤ (all.length : Int) by omega)]
              refine Ev.bindv (a := all.drop 1) ?_ (Ev.bind hvv ?_)
              · unfold spec_l01Own.f
                simp only [Option.bind_some, List.length_nil, if_pos (show 0 + (all.drop 1).length < 17592186044416 by omega), List.nil_append]
              · cases inB (all.drop 1) <;> simp <;> exact Ev.now _
            · cases inB (all.drop 1) <;> simp; omega
            · cases inB (all.drop 1)
              · intro h; simp at h
              · intro _; simp; omega
          | succ d ih =>
            intro all ha hd
            obtain ⟨b1, b2⟩ := par_lt (p := p) (i := ((d + 1 : Nat) : Int)) hp2 (by omega)
            have hpe := spec_parent_eq (i := ((d + 1 : Nat) : Int)) hp (by omega) (by omega)
            have ed : wrap64 (((d + 1 : Nat) : Int) - 1) = (d : Int) := by rw [wid (by omega) (by omega)]; omega
            by_cases hin : ((d + 1 : Nat) : Int) ≥ sz p (r - 1).toNat
            · obtain ⟨q, q1, q2, q3⟩ := ih (((all.set ((d + 1 : Nat) : Int).toNat (rd v (((d + 1 : Nat) : Int) - sz p (r - 1).toNat))).set (par p ((d + 1 : Nat) : Int)).toNat (wrap64 (rd (all.set ((d + 1 : Nat) : Int).toNat (rd v (((d + 1 : Nat) : Int) - sz p (r - 1).toNat))) (par p ((d + 1 : Nat) : Int)) + rd (all.set ((d + 1 : Nat) : Int).toNat (rd v (((d + 1 : Nat) : Int) - sz p (r - 1).toNat))) ((d + 1 : Nat) : Int))))) (by simp; omega) (by omega)
              refine ⟨q, Ev.up ?_, q2, q3⟩
              simp only [spec_FlowOfBoundary.l1, if_pos (show ((d + 1 : Nat) : Int) > 0 by omega), if_pos hin]
              rw [wid (n := ((d + 1 : Nat) : Int) - sz p (r - 1).toNat) (by omega) (by omega)]
              simp only [if_pos (show 0 ≤ ((d + 1 : Nat) : Int) - sz p (r - 1).toNat by omega), if_pos (show ((d + 1 : Nat) : Int) - sz p (r - 1).toNat < (v.length : Int) by omega), if_pos (show (0 : Int) ≤ ((d + 1 : Nat) : Int) by omega), if_pos (show ((d + 1 : Nat) : Int) < (all.length : Int) by omega), Option.bind_some]
              refine Ev.bindv hpe ?_
              simp only [if_pos b1, if_pos (show par p ((d + 1 : Nat) : Int) < (all.length : Int) by omega), ed]
              exact q1
            · obtain ⟨q, q1, q2, q3⟩ := ih (all.set (par p ((d + 1 : Nat) : Int)).toNat (wrap64 (rd all (par p ((d + 1 : Nat) : Int)) + rd all ((d + 1 : Nat) : Int)))) (by simp; omega) (by omega)
              refine ⟨q, Ev.up ?_, q2, q3⟩
              simp only [spec_FlowOfBoundary.l1, if_pos (show ((d + 1 : Nat) : Int) > 0 by omega), if_neg hin]
              refine Ev.bindv hpe ?_
              simp only [if_pos b1, if_pos (show par p ((d + 1 : Nat) : Int) < (all.length : Int) by omega), if_pos (show (0 : Int) ≤ ((d + 1 : Nat) : Int) by omega), if_pos (show ((d + 1 : Nat) : Int) < (all.length : Int) by omega), ed]
              exact q1
        have l0 : ∀ (d i : Nat) (s : Int), i + d = v.length → ∃ q : List Int × Int, Ev (fun k => spec_FlowOfBoundary.l0 k p r v s i) q ∧ q.1.length ≤ 3201 ∧ (q.2 = 0 → 1 ≤ q.1.length) := by
          intro d
          induction d with
          | zero =>
            intro i s hi
            by_cases hs : s = 0
            · obtain ⟨q, q1, q2, q3⟩ := l1 (sz p r.toNat - 1).toNat (List.replicate (sz p r.toNat).toNat 0) (by simp; omega) (by omega)
              rw [Int.toNat_of_nonneg (by omega)] at q1
              refine ⟨q, Ev.up ?_, q2, q3⟩
              simp only [spec_FlowOfBoundary.l0, if_neg (show ¬ (i : Int) < (v.length : Int) by omega), if_pos hs]
              rw [wid (n := r - 1) (by omega) (by omega)]
              refine Ev.bind e1 (Ev.bind e2 ?_)
              rw [wid (n := sz p r.toNat - 1) (by omega) (by omega)]
              simp only [if_pos (show 0 ≤ sz p r.toNat by omega), if_pos (show (sz p r.toNat).toNat ≤ 35184372088832 by omega)]
              exact q1
            · refine ⟨([], 5), Ev.up ?_, by simp, fun h => by simp at h⟩
              simp only [spec_FlowOfBoundary.l0, if_neg (show ¬ (i : Int) < (v.length : Int) by omega), if_neg hs]; exact Ev.now _
          | succ d ih =>
            intro i s hi
            obtain ⟨q, q1, q2, q3⟩ := ih (i + 1) (wrap64 (s + rd v i)) (by omega)
            refine ⟨q, Ev.up ?_, q2, q3⟩
            simp only [spec_FlowOfBoundary.l0, if_pos (show (i : Int) < (v.length : Int) by omega), if_pos (show (0 : Int) ≤ (i : Int) by omega)]
            rw [wid (n := (i : Int) + 1) (by omega) (by omega)]
            exact q1
        obtain ⟨q, q1, q2, q3⟩ := l0 v.length 0 0 (by omega)
        refine ⟨q, pre _ ?_, q2, q3⟩
        simp only [if_pos hlen]
        refine Ev.bind hval ?_
        rw [hb]
        refine Ev.up ?_
        simp only [spec_FlowOfBoundary.j0, Bool.not_true, Bool.false_eq_true, if_false, if_pos t0]
        exact q1
      · refine ⟨([], t), pre _ ?_, by simp, fun h => absurd h t0⟩
        simp only [if_pos hlen]
        refine Ev.bind hval ?_
        rw [hb]
        refine Ev.up ?_
        simp only [spec_FlowOfBoundary.j0, Bool.not_true, Bool.false_eq_true, if_false, if_neg t0]
        exact Ev.now _
  · refine ⟨([], 2), pre _ ?_, by simp, fun h => by simp at h⟩
    simp only [if_neg hlen]; exact j0t t
theorem flow_ok {c : List Int} {q : Int} (S : okS c q) (h : Int) : ∃ p r l q' h', Ev (fun k => spec_l07Flow.f k c q h) (p, r, l, q', h') ∧ okS c q' ∧ l.length ≤ 3201 := by
  have plain : ∀ (p r q h : Int), okS c q → ∃ l q' h', Ev (fun k => (spec_l07Places.f k p r).bind fun t => (spec_l07Numbers.f k c q h (wrap64 (t - 1))).bind fun b => some (p, r, b.1, b.2.1, b.2.2)) (p, r, l, q', h') ∧ okS c q' ∧ l.length ≤ 3201 := by
    intro p r q h S
    obtain ⟨t, et, t1, t2⟩ := places_ok p r
    obtain ⟨l, q', h', e, S', hl⟩ := numbers_ok S h (t - 1) (by omega)
    refine ⟨l, q', h', Ev.bind et ?_, S', by omega⟩
    rw [wid (n := t - 1) (by omega) (by omega)]
    exact Ev.bind e (Ev.now _)
  have j0 : ∀ (p r : Int) (b : Bool) (q h : Int), okS c q → ∃ l q' h', Ev (fun k => spec_l07Flow.j0 k p r b c q h) (p, r, l, q', h') ∧ okS c q' ∧ l.length ≤ 3201 := by
    intro p r b q h S
    cases b with
    | false =>
      obtain ⟨l, q', h', e, S', hl⟩ := plain p r q h S
      refine ⟨l, q', h', Ev.up ?_, S', hl⟩
      simp only [spec_l07Flow.j0, Bool.false_eq_true, if_false]; exact e
    | true =>
      obtain ⟨l1, q1, h1, e1, S1, hl1⟩ := boundary_ok S h p r
      obtain ⟨⟨f, t⟩, e2, hl2, hl3⟩ := flowOf_ok p r l1 hl1
      simp only at hl2 hl3
      by_cases t0 : t = 0
      · obtain ⟨v, q3, h3, e3, S3, v0, v1⟩ := next_ok S1 h1 (f.length : Int)
        obtain ⟨x, q4, h4, e4, S4, _⟩ := next_ok S3 h3 3
        have := hl3 t0
        by_cases x0 : x = 0
        · refine ⟨f.set v.toNat (wrap64 (rd f v + 1)), q4, h4, Ev.up ?_, S4, by simp; omega⟩
          simp only [spec_l07Flow.j0, if_true]
          refine Ev.bind e1 (Ev.bind e2 ?_)
          simp only [if_pos t0, e3, e4, Option.bind_some, if_pos x0, if_pos v0, if_pos (v1 (by omega))]; exact Ev.now _
        · refine ⟨f, q4, h4, Ev.up ?_, S4, by omega⟩
          simp only [spec_l07Flow.j0, if_true]
          refine Ev.bind e1 (Ev.bind e2 ?_)
          simp only [if_pos t0, e3, e4, Option.bind_some, if_neg x0]; exact Ev.now _
      · obtain ⟨l, q', h', e, S', hl⟩ := plain p r q1 h1 S1
        refine ⟨l, q', h', Ev.up ?_, S', hl⟩
        simp only [spec_l07Flow.j0, if_true]
        refine Ev.bind e1 (Ev.bind e2 ?_)
        simp only [if_neg t0]; exact e
  obtain ⟨p, r, q1, h1, e1, S1⟩ := sized_ok S h
  obtain ⟨v, q2, h2, e2, S2, _⟩ := next_ok S1 h1 2
  by_cases v0 : v = 0
  · obtain ⟨l, q', h', e, S', hl⟩ := j0 p r (decide (r > 0)) q2 h2 S2
    refine ⟨p, r, l, q', h', ?_, S', hl⟩
    unfold spec_l07Flow.f
    refine Ev.bind e1 ?_
    simp only [e2, Option.bind_some, if_pos v0]; exact e
  · obtain ⟨l, q', h', e, S', hl⟩ := j0 p r false q2 h2 S2
    refine ⟨p, r, l, q', h', ?_, S', hl⟩
    unfold spec_l07Flow.f
    refine Ev.bind e1 ?_
    simp only [e2, Option.bind_some, if_neg v0]; exact e
theorem draw_ok {c : List Int} (hb : ∀ x ∈ c, 0 ≤ x ∧ x ≤ 255) (hc : c.length ≤ 5000) : ∃ p r l, Ev (fun k => spec_l07Draw.f k c) (p, r, l) ∧ l.length ≤ 3201 := by
  have plain : ∀ (p r q h : Int), okS c q → ∃ l, Ev (fun k => (spec_l07Places.f k p r).bind fun t => (spec_l07Numbers.f k c q h t).bind fun b => some (p, r, b.1)) (p, r, l) ∧ l.length ≤ 3201 := by
    intro p r q h S
    obtain ⟨t, et, t1, t2⟩ := places_ok p r
    obtain ⟨l, q', h', e, S', hl⟩ := numbers_ok S h t (by omega)
    exact ⟨l, Ev.bind et (Ev.bind e (Ev.now _)), by omega⟩
  have j0 : ∀ (p r : Int) (b : Bool) (q h : Int), okS c q → ∃ l, Ev (fun k => spec_l07Draw.j0 k p r b c q h) (p, r, l) ∧ l.length ≤ 3201 := by
    intro p r b q h S
    cases b with
    | false =>
      obtain ⟨l, e, hl⟩ := plain p r q h S
      refine ⟨l, Ev.up ?_, hl⟩
      simp only [spec_l07Draw.j0, Bool.false_eq_true, if_false]; exact e
    | true =>
      obtain ⟨l1, q1, h1, e1, S1, hl1⟩ := boundary_ok S h p r
      obtain ⟨⟨f, t⟩, e2, hl2, hl3⟩ := flowOf_ok p r l1 hl1
      simp only at hl2 hl3
      by_cases t0 : t = 0
      · obtain ⟨v, q3, h3, e3, S3, v0, v1⟩ := next_ok S1 h1 9
        obtain ⟨⟨g, u⟩, _, e4, hl4, _⟩ := pot_both p r (wrap64 (v - 4)) f (by omega)
        simp only at hl4
        by_cases u0 : u = 0
        · refine ⟨g, Ev.up ?_, by omega⟩
          simp only [spec_l07Draw.j0, if_true]
          refine Ev.bind e1 (Ev.bind e2 ?_)
          simp only [if_pos t0, e3, Option.bind_some]
          refine Ev.bind e4 ?_
          simp only [if_pos u0]; exact Ev.now _
        · obtain ⟨l, e, hl⟩ := plain p r q3 h3 S3
          refine ⟨l, Ev.up ?_, hl⟩
          simp only [spec_l07Draw.j0, if_true]
          refine Ev.bind e1 (Ev.bind e2 ?_)
          simp only [if_pos t0, e3, Option.bind_some]
          refine Ev.bind e4 ?_
          simp only [if_neg u0]; exact e
      · obtain ⟨l, e, hl⟩ := plain p r q1 h1 S1
        refine ⟨l, Ev.up ?_, hl⟩
        simp only [spec_l07Draw.j0, if_true]
        refine Ev.bind e1 (Ev.bind e2 ?_)
        simp only [if_neg t0]; exact e
  obtain ⟨h, eF⟩ := from_ok hb hc
  have S0 : okS c 0 := ⟨hb, hc, by omega⟩
  obtain ⟨p, r, q1, h1, e1, S1⟩ := sized_ok S0 h
  obtain ⟨v, q2, h2, e2, S2, _⟩ := next_ok S1 h1 3
  have hcode := spec_l07Code_ev p r
  by_cases v0 : v = 0
  · obtain ⟨t, ht⟩ : ∃ t, t = (if primeB p = true then (if 0 ≤ r ∧ r ≤ 4 then (if sz p r.toNat > 500 then (3 : Int) else 0) else 2) else 1) := ⟨_, rfl⟩
    rw [← ht] at hcode
    by_cases t0 : t = 0
    · obtain ⟨l, e, hl⟩ := j0 p r (decide (r > 0)) q2 h2 S2
      refine ⟨p, r, l, ?_, hl⟩
      unfold spec_l07Draw.f
      refine Ev.bind eF (Ev.bind e1 ?_)
      simp only [e2, Option.bind_some, if_pos v0]
      refine Ev.bind hcode ?_
      simp only [if_pos t0]; exact e
    · obtain ⟨l, e, hl⟩ := j0 p r false q2 h2 S2
      refine ⟨p, r, l, ?_, hl⟩
      unfold spec_l07Draw.f
      refine Ev.bind eF (Ev.bind e1 ?_)
      simp only [e2, Option.bind_some, if_pos v0]
      refine Ev.bind hcode ?_
      simp only [if_neg t0]; exact e
  · obtain ⟨l, e, hl⟩ := j0 p r false q2 h2 S2
    refine ⟨p, r, l, ?_, hl⟩
    unfold spec_l07Draw.f
    refine Ev.bind eF (Ev.bind e1 ?_)
    simp only [e2, Option.bind_some, if_neg v0]; exact e
theorem drawPot_ok {c : List Int} (hb : ∀ x ∈ c, 0 ≤ x ∧ x ≤ 255) (hc : c.length ≤ 5000) : ∃ p r x l, Ev (fun k => spec_DrawPotentialOf.f k c) (p, r, x, l) ∧ l.length ≤ 3201 := by
  obtain ⟨h, eF⟩ := from_ok hb hc
  have S0 : okS c 0 := ⟨hb, hc, by omega⟩
  obtain ⟨p, r, l, q1, h1, e1, S1, hl⟩ := flow_ok S0 h
  obtain ⟨v, q2, h2, e2, S2, _⟩ := next_ok S1 h1 1000
  obtain ⟨x, q3, h3, e3, S3⟩ := pick_ok S2 h2 [0, 1, -3, v, 1000000, 1000001] (by simp)
  refine ⟨p, r, x, l, ?_, hl⟩
  unfold spec_DrawPotentialOf.f
  refine Ev.bind eF (Ev.bind e1 ?_)
  simp only [e2, e3, Option.bind_some]; exact Ev.now _
theorem drawSph_ok {c : List Int} (hb : ∀ x ∈ c, 0 ≤ x ∧ x ≤ 255) (hc : c.length ≤ 4999) : ∃ p r l n, Ev (fun k => spec_DrawSphereSums.f k c) (p, r, l, n) ∧ l.length ≤ 3201 := by
  have hb2 : ∀ x ∈ [2] ++ c, 0 ≤ x ∧ x ≤ 255 := by
    intro x hx
    rcases List.mem_append.1 hx with h | h
    · simp at h; omega
    · exact hb x h
  have hc2 : ([2] ++ c).length ≤ 5000 := by simp; omega
  obtain ⟨h, eF⟩ := from_ok hb2 hc2
  have S0 : okS ([2] ++ c) 0 := ⟨hb2, hc2, by omega⟩
  obtain ⟨p, r, l, e1, hl⟩ := draw_ok hb (by omega)
  obtain ⟨n, q3, h3, e3, S3⟩ := near_ok S0 h (mx r 0)
  refine ⟨p, r, l, n, ?_, hl⟩
  refine Ev.up ?_
  simp only [spec_DrawSphereSums.f, Option.bind_some, List.length_cons, List.length_nil, if_pos (show 0 + 1 + c.length < 140737488355328 by omega)]
  refine Ev.bind eF (Ev.bind e1 ?_)
  simp only [e3, Option.bind_some]; exact Ev.now _

theorem like_ev {l : List Int} (hl : l.length ≤ 4611686018427387904) : Ev (fun k => laws_likeInts.f k l l) true := by
  have key : ∀ (d i : Nat), i + d = l.length → Ev (fun k => laws_likeInts.l0 k l l i) true := by
    intro d
    induction d with
    | zero =>
      intro i hi
      refine Ev.up ?_
      simp only [laws_likeInts.l0, if_neg (show ¬ (i : Int) < (l.length : Int) by omega)]; exact Ev.now _
    | succ d ih =>
      intro i hi
      refine Ev.up ?_
      simp only [laws_likeInts.l0, if_pos (show (i : Int) < (l.length : Int) by omega), if_pos (show (0 : Int) ≤ (i : Int) by omega), if_true]
      rw [wid (n := (i : Int) + 1) (by omega) (by omega)]
      exact ih (i + 1) (by omega)
  unfold laws_likeInts.f
  simp only [if_true]
  exact key l.length 0 (by omega)
theorem fch_pos {p c : Int} (hp : 2 ≤ p) (hc : 0 ≤ c) : 1 ≤ fch p c := by
  unfold fch
  by_cases h : c = 0
  · rw [if_pos h]; omega
  · rw [if_neg h]
    have := Int.mul_nonneg (show 0 ≤ c - 1 by omega) (show 0 ≤ p by omega)
    omega
theorem sph_id {p : Int} {f : List Int} (hp : primeB p = true) (n : Nat) : sumF (fun j => SF p f (n + 1) (fch p 0 + j) (-1)) (cnt p 0) = SF p f (n + 2) 0 (-1) + (if n = 0 then p + 1 else p) * SF p f n 0 (-1) := by
  have hp2 := prime_lo hp
  have hc : ((cnt p 0 : Nat) : Int) = p + 1 := by unfold cnt; rw [if_pos rfl]; omega
  have h1 : ∀ j : Nat, j < cnt p 0 → SF p f (n + 1) (fch p 0 + j) (-1) = SF p f n 0 (fch p 0 + j) + SF p f (n + 1) (fch p 0 + j) 0 := by
    intro j hj
    have hpar := par_child (p := p) (i := 0) (j := j) hp2 (by omega) hj
    have hf0 := fch_pos (p := p) (c := 0) hp2 (by omega)
    have hfc := fch_pos (p := p) (c := fch p 0 + j) hp2 (by omega)
    have e1 : sumF (fun q => if fch p (fch p 0 + (j : Int)) + (q : Int) = -1 then 0 else SF p f n (fch p (fch p 0 + (j : Int)) + q) (fch p 0 + j)) (cnt p (fch p 0 + j)) = sumF (fun q => if fch p (fch p 0 + (j : Int)) + (q : Int) = 0 then 0 else SF p f n (fch p (fch p 0 + (j : Int)) + q) (fch p 0 + j)) (cnt p (fch p 0 + j)) := by
      refine sumF_congr (fun q _ => ?_)
      rw [if_neg (by omega), if_neg (by omega)]
    simp only [SF]
    rw [hpar, if_pos ⟨by omega, by omega⟩, if_neg (fun h => h.2 rfl), e1]
    omega
  have h2 : SF p f (n + 2) 0 (-1) = sumF (fun j => SF p f (n + 1) (fch p 0 + j) 0) (cnt p 0) := by
    have hf0 := fch_pos (p := p) (c := 0) hp2 (by omega)
    have e : SF p f (n + 2) 0 (-1) = (if (0 : Int) < 0 ∧ par p 0 ≠ -1 then SF p f (n + 1) (par p 0) 0 else 0) + sumF (fun j => if fch p 0 + (j : Int) = -1 then 0 else SF p f (n + 1) (fch p 0 + j) 0) (cnt p 0) := rfl
    rw [e, if_neg (fun h => by omega), Int.zero_add]
    refine sumF_congr (fun q _ => ?_)
    rw [if_neg (by omega)]
  have h3 : sumF (fun j => SF p f n 0 (fch p 0 + j)) (cnt p 0) = (if n = 0 then p + 1 else p) * SF p f n 0 (-1) := by
    cases n with
    | zero =>
      simp only [SF, if_true]
      rw [sumF_const, hc]
    | succ m =>
      have hf0 := fch_pos (p := p) (c := 0) hp2 (by omega)
      have eT : SF p f (m + 1) 0 (-1) = sumF (fun j => SF p f m (fch p 0 + j) 0) (cnt p 0) := by
        have e : SF p f (m + 1) 0 (-1) = (if (0 : Int) < 0 ∧ par p 0 ≠ -1 then SF p f m (par p 0) 0 else 0) + sumF (fun j => if fch p 0 + (j : Int) = -1 then 0 else SF p f m (fch p 0 + j) 0) (cnt p 0) := rfl
        rw [e, if_neg (fun h => by omega), Int.zero_add]
        refine sumF_congr (fun q _ => ?_)
        rw [if_neg (by omega)]
      have e1 : ∀ j : Nat, j < cnt p 0 → SF p f (m + 1) 0 (fch p 0 + j) = SF p f (m + 1) 0 (-1) - SF p f m (fch p 0 + j) 0 := by
        intro j hj
        have e : SF p f (m + 1) 0 (fch p 0 + j) = (if (0 : Int) < 0 ∧ par p 0 ≠ fch p 0 + j then SF p f m (par p 0) 0 else 0) + sumF (fun q => if fch p 0 + (q : Int) = fch p 0 + j then 0 else SF p f m (fch p 0 + q) 0) (cnt p 0) := rfl
        rw [e, if_neg (fun h => by omega), Int.zero_add, eT]
        have e2 : sumF (fun q => if fch p 0 + (q : Int) = fch p 0 + j then 0 else SF p f m (fch p 0 + q) 0) (cnt p 0) = sumF (fun q => if q = j then 0 else SF p f m (fch p 0 + q) 0) (cnt p 0) := by
          refine sumF_congr (fun q _ => ?_)
          by_cases h : q = j
          · rw [if_pos h, if_pos (by omega)]
          · rw [if_neg h, if_neg (by omega)]
        rw [e2, sumF_but (fun q => SF p f m (fch p 0 + q) 0), if_pos hj]
      rw [sumF_congr e1, sumF_sub, sumF_const, ← eT, hc, if_neg (by omega), Int.add_mul, Int.one_mul]
      omega
  rw [sumF_congr h1, sumF_add, h3, h2]
  omega
theorem harm_j3 {c : List Int} (hb : ∀ x ∈ c, 0 ≤ x ∧ x ≤ 255) (hc : c.length ≤ 4999) : Ev (fun k => laws_FnHarmonics.j3 k c) true := by
  obtain ⟨p, r, l, e1, hl⟩ := draw_ok hb (by omega)
  obtain ⟨q, n1, n2, n3⟩ := nsum_both p r l (by omega)
  obtain ⟨d1, d2⟩ := dif_both p r l (by omega)
  obtain ⟨m1, m2⟩ := harm_both p r l (by omega)
  have hd : (if lcW p r l 0 = 0 then difW p l else (([] : List Int), lcW p r l 0)).1.length ≤ 3201 := by
    split
    · unfold difW; split
      · rw [difs_len]; omega
      · simp
    · simp
  generalize (if lcW p r l 0 = 0 then difW p l else (([] : List Int), lcW p r l 0)) = d at *
  generalize (if lcW p r l 0 = 0 then (harmW p r l, (0 : Int)) else (false, lcW p r l 0)) = m at *
  have dr : Ev (fun k => (spec_l07Draw.f k c).bind fun t => some (t.1, t.2.1, t.2.2)) (p, r, l) := Ev.bind e1 (Ev.now _)
  refine Ev.up ?_
  simp only [laws_FnHarmonics.j3, spec_DrawNeighbourSums.f, spec_DrawDifferencesOf.f, spec_DrawIsHarmonic.f]
  refine Ev.bind dr (Ev.bind n1 (Ev.bind n2 (Ev.bind dr (Ev.bind d1 (Ev.bind d2 (Ev.bind dr (Ev.bind m1 (Ev.bind m2 ?_))))))))
  simp only [if_true]
  refine Ev.bind (like_ev (by omega)) ?_
  simp only [if_true]
  refine Ev.bind (like_ev (by omega)) ?_
  simp only [if_true, beq_self_eq_true]
  exact Ev.now _
theorem harm_j1 {c : List Int} (hb : ∀ x ∈ c, 0 ≤ x ∧ x ≤ 255) (hc : c.length ≤ 4999) {p r n : Int} {f s : List Int} {b : Bool} (h : b = true → lcW p r f 0 = 0 ∧ 1 ≤ n ∧ n < r ∧ s = sphs p f (r - n).toNat n.toNat) : Ev (fun k => laws_FnHarmonics.j1 k c p r f n s b) true := by
  have h3 := harm_j3 hb hc
  cases b with
  | false =>
    refine Ev.up ?_
    simp only [laws_FnHarmonics.j1, Bool.false_eq_true, if_false]; exact h3
  | true =>
    obtain ⟨hx, hn1, hn2, hs⟩ := h rfl
    obtain ⟨o1, o2, o3, o4, o5⟩ := lcW_ok hx
    have hp2 := prime_lo o1
    have hp7 := prime_hi o1
    obtain ⟨m, rfl⟩ : ∃ m : Nat, n = ((m + 1 : Nat) : Int) := ⟨(n - 1).toNat, by omega⟩
    have s1 := impl_sph_ok (n := ((m + 2 : Nat) : Int)) hx (by omega)
    have s2 := impl_sph_ok (n := (m : Int)) hx (by omega)
    rw [Int.toNat_natCast] at s1 s2 hs
    have ec : Ev (fun k => impl_ChildPlaces.f k p 0) (chs p 0, 0) := by
      unfold impl_ChildPlaces.f
      refine Ev.bindv (impl_isPrime_eq p) ?_
      rw [o1]
      simp only [if_true, if_neg (show ¬ (0 : Int) < 0 by decide), if_neg (show ¬ (0 : Int) > 500 by decide)]
      exact Ev.bind (impl_childs_ev o1 (by omega) (by omega)) (Ev.now _)
    have z1 := sz_bd o1 (n := (r - ((m + 2 : Nat) : Int)).toNat) (by omega)
    have z2 := sz_bd o1 (n := (r - (m : Int)).toNat) (by omega)
    have z3 := sz_bd o1 (n := (r - ((m + 1 : Nat) : Int)).toNat) (by omega)
    have zm := sz_mono hp2 (show 1 ≤ (r - ((m + 1 : Nat) : Int)).toNat by omega)
    have l1 := sphs_len p f (r - ((m + 2 : Nat) : Int)).toNat (m + 2)
    have l2 := sphs_len p f (r - (m : Int)).toNat m
    have l3 := sphs_len p f (r - ((m + 1 : Nat) : Int)).toNat (m + 1)
    have r1 : rd (sphs p f (r - ((m + 2 : Nat) : Int)).toNat (m + 2)) 0 = SF p f (m + 2) 0 (-1) := rd_sphs (i := 0) (by omega)
    have r2 : rd (sphs p f (r - (m : Int)).toNat m) 0 = SF p f m 0 (-1) := rd_sphs (i := 0) (by omega)
    have h9 : ∀ e : Nat, e ≤ 4 → (1 : Int) ≤ 9 ^ e ∧ (9 : Int) ^ e ≤ 6561 := by
      intro e he
      have : e = 0 ∨ e = 1 ∨ e = 2 ∨ e = 3 ∨ e = 4 := by omega
      rcases this with rfl | rfl | rfl | rfl | rfl <;> decide
    have b1 := SF_bd o1 o4 (m + 2) 0 (-1)
    have b2 := SF_bd o1 o4 m 0 (-1)
    have q1 := h9 (m + 2) (by omega)
    have q2 := h9 m (by omega)
    have q3 := h9 (m + 1) (by omega)
    have id := sph_id (f := f) o1 m
    have hcnt : ((cnt p 0 : Nat) : Int) = p + 1 := by unfold cnt; rw [if_pos rfl]; omega
    have loop : ∀ d j : Nat, j + d = cnt p 0 → Ev (fun k => laws_FnHarmonics.l0 k c p ((m + 1 : Nat) : Int) s (sphs p f (r - ((m + 2 : Nat) : Int)).toNat (m + 2)) (sphs p f (r - (m : Int)).toNat m) (chs p 0) (sumF (fun j => SF p f (m + 1) (fch p 0 + j) (-1)) j) j) true := by
      intro d
      induction d with
      | zero =>
        intro j hj
        obtain rfl : j = cnt p 0 := by omega
        have b3 : ∀ F : Int, F = p + 1 ∨ F = p → -(8 * (1000000 * 9 ^ m)) ≤ F * SF p f m 0 (-1) ∧ F * SF p f m 0 (-1) ≤ 8 * (1000000 * 9 ^ m) := by
          intro F hF
          have t1 := Int.mul_le_mul_of_nonneg_left b2.2 (show 0 ≤ F by omega)
          have t2 := Int.mul_le_mul_of_nonneg_left b2.1 (show 0 ≤ F by omega)
          have t3 := Int.mul_le_mul_of_nonneg_right (show F ≤ 8 by omega) (show (0 : Int) ≤ 1000000 * 9 ^ m by omega)
          rw [Int.mul_neg] at t2
          omega
        refine Ev.up ?_
        simp only [laws_FnHarmonics.l0, chs_len, if_neg (show ¬ ((cnt p 0 : Nat) : Int) < ((cnt p 0 : Nat) : Int) by omega), r1, r2]
        rw [wid (n := p + 1) (by omega) (by omega)]
        by_cases hm : m = 0
        · rw [if_pos hm] at id
          have t := b3 (p + 1) (.inl rfl)
          simp only [if_pos (show ((m + 1 : Nat) : Int) = 1 by omega), if_pos (show 0 < ((sphs p f (r - ((m + 2 : Nat) : Int)).toNat (m + 2)).length : Int) by omega), if_pos (show 0 < ((sphs p f (r - (m : Int)).toNat m).length : Int) by omega)]
          rw [wid (n := (p + 1) * SF p f m 0 (-1)) (by omega) (by omega), wid (n := SF p f (m + 2) 0 (-1) + (p + 1) * SF p f m 0 (-1)) (by omega) (by omega)]
          simp only [if_pos id]
          exact h3
        · rw [if_neg hm] at id
          have t := b3 p (.inr rfl)
          simp only [if_neg (show ¬ ((m + 1 : Nat) : Int) = 1 by omega), if_pos (show 0 < ((sphs p f (r - ((m + 2 : Nat) : Int)).toNat (m + 2)).length : Int) by omega), if_pos (show 0 < ((sphs p f (r - (m : Int)).toNat m).length : Int) by omega)]
          rw [wid (n := p * SF p f m 0 (-1)) (by omega) (by omega), wid (n := SF p f (m + 2) 0 (-1) + p * SF p f m 0 (-1)) (by omega) (by omega)]
          simp only [if_pos id]
          exact h3
      | succ d ih =>
        intro j hj
        obtain ⟨c1, c2⟩ := child_lt (p := p) (i := 0) (j := j) (m := 0) hp2 (by omega) (by simp [sz]) (by omega)
        have nx := ih (j + 1) (by omega)
        have hrd : rd s (fch p 0 + (j : Int)) = SF p f (m + 1) (fch p 0 + j) (-1) := by
          have := rd_sphs (p := p) (f := f) (m := (r - ((m + 1 : Nat) : Int)).toNat) (n := m + 1) (i := (fch p 0 + (j : Int)).toNat) (by simp only [Nat.zero_add] at c2; omega)
          rw [Int.toNat_of_nonneg (by omega), ← hs] at this
          exact this
        have hsl : (s.length : Int) = sz p (r - ((m + 1 : Nat) : Int)).toNat := by rw [hs, l3]; omega
        have b4 := SF_bd o1 o4 (m + 1) (fch p 0 + j) (-1)
        have b5 := sumF_bd (g := fun j => SF p f (m + 1) (fch p 0 + j) (-1)) (M := 1000000 * 9 ^ (m + 1)) (n := j) (fun j _ => SF_bd o1 o4 (m + 1) (fch p 0 + j) (-1))
        have b6 := Int.mul_le_mul_of_nonneg_right (show ((j : Nat) : Int) ≤ 8 by omega) (show (0 : Int) ≤ 1000000 * 9 ^ (m + 1) by omega)
        simp only [Nat.zero_add] at c2
        refine Ev.up ?_
        simp only [laws_FnHarmonics.l0, chs_len, if_pos (show (j : Int) < ((cnt p 0 : Nat) : Int) by omega), if_pos (show (0 : Int) ≤ (j : Int) by omega), chs_rd (p := p) (i := 0) (show j < cnt p 0 by omega)]
        rw [wid (n := (j : Int) + 1) (by omega) (by omega)]
        simp only [if_neg (show ¬ fch p 0 + (j : Int) ≥ (s.length : Int) by omega), if_pos (show 0 ≤ fch p 0 + (j : Int) by omega), if_pos (show fch p 0 + (j : Int) < (s.length : Int) by omega), hrd]
        rw [wid (n := sumF (fun j => SF p f (m + 1) (fch p 0 + j) (-1)) j + SF p f (m + 1) (fch p 0 + j) (-1)) (by omega) (by omega)]
        exact nx
    refine Ev.up ?_
    simp only [laws_FnHarmonics.j1, if_true]
    rw [wid (n := ((m + 1 : Nat) : Int) + 1) (by omega) (by omega), wid (n := ((m + 1 : Nat) : Int) - 1) (by omega) (by omega), show ((m + 1 : Nat) : Int) + 1 = ((m + 2 : Nat) : Int) from by omega, show ((m + 1 : Nat) : Int) - 1 = (m : Int) from by omega]
    refine Ev.bind s1 (Ev.bind s2 (Ev.bind ec ?_))
    simp only [if_true]
    exact loop (cnt p 0) 0 (by omega)
theorem harm_j0 {c : List Int} (hb : ∀ x ∈ c, 0 ≤ x ∧ x ≤ 255) (hc : c.length ≤ 4999) : Ev (fun k => laws_FnHarmonics.j0 k c) true := by
  obtain ⟨p, r, l, n, e1, hl⟩ := drawSph_ok hb hc
  obtain ⟨q, s1, s2, s3, s4⟩ := sph_both p r n l (by omega)
  refine Ev.up ?_
  simp only [laws_FnHarmonics.j0]
  refine Ev.bind e1 (Ev.bind s1 (Ev.bind s2 ?_))
  simp only [if_true]
  refine Ev.bind (like_ev (by omega)) ?_
  simp only [if_true]
  by_cases h0 : q.2 = 0
  · obtain ⟨t1, t2, t3⟩ := s4 h0
    simp only [if_pos h0]
    by_cases hn : n ≥ 1
    · simp only [if_pos hn]
      exact harm_j1 hb hc (fun hd => ⟨t1, hn, of_decide_eq_true hd, t3⟩)
    · simp only [if_neg hn]
      exact harm_j1 hb hc (fun hd => by simp at hd)
  · simp only [if_neg h0]
    exact harm_j1 hb hc (fun hd => by simp at hd)
theorem FnHarmonics : laws_FnHarmonics.Pure := by
  intro c _ _ hw
  have hb : ∀ x ∈ c, 0 ≤ x ∧ x ≤ 255 := by
    intro x hx
    have := hw x hx
    simp only [Lit.wf, Bool.and_eq_true, decide_eq_true_eq] at this
    exact this
  refine Ev.rounds ?_
  unfold laws_FnHarmonics.f laws_big.f
  simp only [Option.bind_some]
  by_cases hc : (c.length : Int) > 4096
  · simp only [decide_eq_true hc, if_true]; exact Ev.now _
  simp only [decide_eq_false hc, Bool.false_eq_true, if_false]
  have h0 := harm_j0 hb (show c.length ≤ 4999 by omega)
  obtain ⟨p, r, x, w, e1, hl⟩ := drawPot_ok hb (show c.length ≤ 5000 by omega)
  obtain ⟨q, p1, p2, p3, p4⟩ := pot_both p r x w (by omega)
  refine Ev.bind e1 (Ev.bind p1 (Ev.bind p2 ?_))
  simp only [if_true]
  refine Ev.bind (like_ev (by omega)) ?_
  simp only [if_true]
  by_cases hq : q.2 = 0
  · obtain ⟨t1, t2, t3, t4⟩ := p4 hq
    obtain ⟨o1, o2, o3, o4, o5⟩ := lcW_ok t1
    have hf := lcW_of (l := q.1) (less := 0) o1 o2 (by omega) t4 o5
    have dd := (dif_both p r q.1 (by omega)).1
    have hh := (harm_both p r q.1 (by omega)).1
    have kk := keep_ev t1
    have ed := difs_pot t2 t3
    rw [if_pos hf] at dd hh
    unfold difW at dd
    rw [ed, if_pos o4] at dd
    rw [harm_keep o1 o2 (by omega) t2 t3] at hh
    simp only [if_pos hq]
    refine Ev.bind dd (Ev.bind hh (Ev.bind kk ?_))
    simp only [if_true]
    refine Ev.bind (like_ev (by omega)) ?_
    simp only [if_true, bne_self_eq_false, Bool.false_eq_true, if_false]
    exact h0
  · simp only [if_neg hq]
    exact h0

end Go.Proofs.Ytojpcbbmbnmchab.Pure
