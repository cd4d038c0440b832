/- For every k and every list, IsShortWord of the program and of the reference return the same answer and code and leave the list alone; no condition beyond the row's. -/
import Derived.Test.YtmhlmpcfpkfjcaaPFnExactIsShortWordx2
import Derived.Test.YtmhlmpcfpkfjcaaWSized
namespace Go.Proofs.Ytmhlmpcfpkfjcaa.PrintWords
open Go.ChangeShapes Go.WideShapes
/-- The name by which the printed row calls the word. -/
theorem sized_ints {H : Type} {enc : TypeId × Value → H} {P : Program} {W : World} {base : Nat} {spare : Nat → Bool} {held : Bool} {t e : TypeId} {k : IntKind} {a : Option Addr} {len cap : Nat} {d : DataW H} {ps : List MemPlace} {ts : List TypeId} {ds : List (DataW H)} {j : Nat}
    (hsz : (DataW.weightsEach P ts ds).all (· ≤ reachBytes) = true) (ht : ts[j]? = some t) (hd : ds[j]? = some d) (hu : P.underlying t = some (.slice e)) (he : P.underlying e = some (.int k)) (hc : P.cellsOf e = 1) {B : Nat} (hB : P.bytesOf e = B)
    (h : DataW.Trod enc P W base spare held t (.slice a len cap) d ps) : len * B ≤ 140737488351232 :=
  Go.Proofs.YtmhlmpcfpkfjcaaW.PrintWords.sized_ints hsz ht hd hu he hc hB h
end Go.Proofs.Ytmhlmpcfpkfjcaa.PrintWords
namespace Go.Proofs.Ytmhlmpcfpkfjcaa.Pure
open Go.RowKit Go.Proofs.Ytmhlmpcfpkfjcaa.PFnExactIsShortWord Go.Proofs.YtmhlmpcfpkfjcaaW.PrintWords Go.Proofs.YtmhlmpcfpkfjcaaW.PrintLast
set_option linter.unusedVariables false
set_option linter.unusedSimpArgs false

-- block base
theorem wid {n : Int} (h0 : -9223372036854775808 ≤ n) (h1 : n ≤ 9223372036854775807) : wrap64 n = n := by unfold wrap64; omega
theorem wrap_lo (n : Int) : -9223372036854775808 ≤ wrap64 n := by unfold wrap64; omega
theorem wrap_hi (n : Int) : wrap64 n ≤ 9223372036854775807 := by unfold wrap64; omega
theorem wf_lo {a : Int} (h : (Lit.int .i64 a).wf = true) : -9223372036854775808 ≤ a := by
  simp only [Lit.wf, Bool.and_eq_true, decide_eq_true_eq] at h
  exact h.1
theorem wf_hi {a : Int} (h : (Lit.int .i64 a).wf = true) : a ≤ 9223372036854775807 := by
  simp only [Lit.wf, Bool.and_eq_true, decide_eq_true_eq] at h
  exact h.2
theorem Ev.val {α : Type} {o : Option α} {r : α} (h : o = some r) : Ev (fun _ => o) r := ⟨0, fun _ _ => h⟩
/-- What comes first is known for every number of rounds. -/
theorem Ev.bindv {α β : Type} {o : Option α} {f : Nat → α → Option β} {a : α} {r : β} (h : o = some a) (k : Ev (fun n => f n a) r) : Ev (fun n => o.bind (f n)) r := by
  subst h; exact k

-- block loops
theorem rd_nat (l : List Int) (j : Nat) (h : j < l.length) : rd l (j : Int) = l[j] := by
  unfold rd; rw [Int.toNat_natCast, List.getD_eq_getElem?_getD, List.getElem?_eq_getElem h]; rfl
/-- A loop that stores element after element of one list into another of the same length ends in the list. -/
theorem copy_ev {α : Type} (g : Nat → List α → Int → Option (List α)) (src : List α) (get : Int → α)
    (hstep : ∀ k (dst : List α) (i : Nat), i < src.length → dst.length = src.length → g (k + 1) dst i = g k (dst.set i (get i)) ((i : Int) + 1))
    (hend : ∀ k (dst : List α) (i : Nat), src.length ≤ i → dst.length = src.length → g (k + 1) dst i = some dst)
    (hget : ∀ (i : Nat) (h : i < src.length), get i = src[i]) (dst : List α) (hd : dst.length = src.length) : Ev (fun k => g k dst 0) src := by
  have key : ∀ (n i : Nat) (dst : List α), i + n = src.length → dst.length = src.length → (∀ (j : Nat) (h : j < src.length), j < i → dst[j]? = some src[j]) → Ev (fun k => g k dst i) src := by
    intro n
    induction n with
    | zero =>
      intro i dst hi hl hp
      refine Ev.step (f := fun _ => some dst) (fun k => hend k dst i (by omega) hl) ?_
      have e : dst = src := by
        refine List.ext_getElem? fun j => ?_
        by_cases h : j < src.length
        · rw [hp j h (by omega), List.getElem?_eq_getElem h]
        · rw [List.getElem?_eq_none (by omega), List.getElem?_eq_none (by omega)]
      rw [e]; exact Ev.now _
    | succ n ih =>
      intro i dst hi hl hp
      refine Ev.step (f := fun k => g k (dst.set i (get i)) ((i + 1 : Nat) : Int)) (fun k => ?_) (ih (i + 1) _ (by omega) (by rw [List.length_set]; exact hl) ?_)
      · rw [hstep k dst i (by omega) hl]; rfl
      · intro j h hj
        by_cases e : j = i
        · subst e
          rw [List.getElem?_set_self (by omega), hget j h]
        · rw [List.getElem?_set_ne (by omega)]; exact hp j h (by omega)
  exact key src.length 0 dst (by omega) hd (fun j h hj => by omega)
/-- A loop over places that goes on as long as a test says yes, and answers no at the first no. -/
theorem all_ev {β : Type} (g : Nat → Int → Option β) (n : Nat) (p : Nat → Bool) (yes no : β)
    (hstep : ∀ (i : Nat), i < n → p i = true → Ev (fun k => g k ((i : Int) + 1)) yes → Ev (fun k => g k i) yes)
    (hstepno : ∀ (i : Nat), i < n → p i = true → Ev (fun k => g k ((i : Int) + 1)) no → Ev (fun k => g k i) no)
    (hno : ∀ (i : Nat), i < n → p i = false → Ev (fun k => g k i) no)
    (hend : Ev (fun k => g k n) yes) : Ev (fun k => g k 0) (if (List.range n).all p then yes else no) := by
  have key : ∀ (d i : Nat), i + d = n → Ev (fun k => g k i) (if (List.range' i d).all p then yes else no) := by
    intro d
    induction d with
    | zero => intro i hi; have : i = n := by omega
              subst this; simpa using hend
    | succ d ih =>
      intro i hi
      have h := ih (i + 1) (by omega)
      rw [List.range'_succ, List.all_cons]
      cases e : p i with
      | false => simpa using hno i (by omega) e
      | true =>
        rw [Bool.true_and]
        have e1 : (((i + 1 : Nat) : Int)) = (i : Int) + 1 := by omega
        rw [e1] at h
        cases e2 : (List.range' (i + 1) d).all p with
        | true => rw [e2] at h; exact hstep i (by omega) e h
        | false => rw [e2] at h; exact hstepno i (by omega) e h
  have := key n 0 (by omega)
  rw [← List.range_eq_range'] at this
  exact this
theorem all_range_rd (l : List Int) (q : Int → Bool) : (List.range l.length).all (fun i => q (rd l (i : Int))) = l.all q := by
  rw [Bool.eq_iff_iff]
  simp only [List.all_eq_true, List.mem_range]
  constructor
  · intro h x hx
    obtain ⟨i, hi, rfl⟩ := List.mem_iff_getElem.1 hx
    have := h i hi
    rwa [rd_nat l i hi] at this
  · intro h i hi
    rw [rd_nat l i hi]
    exact h _ (List.getElem_mem hi)

-- block laws_toInt64S
theorem laws_toInt64S_ev (l : List Int) (hl : l.length ≤ 35184372088832) : Ev (fun k => laws_toInt64S.f k l) l := by
  refine Ev.congr (f := fun k => laws_toInt64S.l0 k l (List.replicate l.length 0) 0) (fun k => ?_) ?_
  · unfold laws_toInt64S.f
    rw [if_pos (by omega), if_pos (by rw [Int.toNat_natCast]; exact hl), Int.toNat_natCast]
  · refine copy_ev (fun k dst i => laws_toInt64S.l0 k l dst i) l (fun i => rd l i) ?_ ?_ (fun i h => rd_nat l i h) _ (by simp)
    · intro k dst i hi hd
      simp only [laws_toInt64S.l0]
      rw [if_pos (by omega), if_pos (by omega), if_pos (by omega), Int.toNat_natCast, wid (by omega) (by omega)]
    · intro k dst i hi hd
      simp only [laws_toInt64S.l0]
      rw [if_neg (by omega)]
theorem laws_eqInt64S_ev (l : List Int) (hl : l.length ≤ 35184372088832) : Ev (fun k => laws_eqInt64S.f k l l) true := by
  have key : ∀ (d i : Nat), i + d = l.length → Ev (fun k => laws_eqInt64S.l0 k l l i) true := by
    intro d
    induction d with
    | zero => intro i hi; exact Ev.step (f := fun _ => some true) (fun k => by simp only [laws_eqInt64S.l0]; rw [if_neg (by omega)]) (Ev.now _)
    | succ d ih =>
      intro i hi
      refine Ev.step (f := fun k => laws_eqInt64S.l0 k l l ((i + 1 : Nat) : Int)) (fun k => ?_) (ih (i + 1) (by omega))
      simp only [laws_eqInt64S.l0]
      rw [if_pos (by omega), if_pos (by omega), if_pos (by omega), if_pos trivial, wid (by omega) (by omega)]; rfl
  refine Ev.congr (f := fun k => laws_eqInt64S.l0 k l l 0) (fun k => ?_) (key l.length 0 (by omega))
  unfold laws_eqInt64S.f; rw [if_pos rfl]

theorem short_same : ∀ (k : Nat) (l : List Int) (i : Int), spec_l09Short.l0 k l i = impl_isShort.l0 k l i := by
  intro k
  induction k with
  | zero => intro l i; rfl
  | succ k ih => intro l i; simp only [spec_l09Short.l0, impl_isShort.l0, ih]
theorem short_l (l : List Int) (hl : l.length ≤ 35184372088832) (d : Nat) : ∀ i : Int, 1 ≤ i → (l.length : Int) - i ≤ d → ∃ r, Ev (fun k => impl_isShort.l0 k l i) r := by
  induction d with
  | zero => intro i h1 hi; exact ⟨true, Ev.step (f := fun _ => some true) (fun k => by simp only [impl_isShort.l0]; rw [if_neg (by omega)]) (Ev.now _)⟩
  | succ d ih =>
    intro i h1 hi
    by_cases h : i < (l.length : Int)
    · by_cases e : rd l i = wrap64 (-(rd l (wrap64 (i - 1))))
      · exact ⟨false, Ev.step (f := fun _ => some false) (fun k => by
          simp only [impl_isShort.l0]
          rw [if_pos h, if_pos (by omega), if_pos (by rw [wid (by omega) (by omega)]; omega), if_pos (by rw [wid (by omega) (by omega)]; omega), if_pos e]) (Ev.now _)⟩
      · obtain ⟨r, hr⟩ := ih (i + 1) (by omega) (by omega)
        refine ⟨r, Ev.step (f := fun k => impl_isShort.l0 k l (i + 1)) (fun k => ?_) hr⟩
        simp only [impl_isShort.l0]
        rw [if_pos h, if_pos (by omega), if_pos (by rw [wid (by omega) (by omega)]; omega), if_pos (by rw [wid (by omega) (by omega)]; omega), if_neg e, show wrap64 (i + 1) = i + 1 from wid (by omega) (by omega)]
    · exact ⟨true, Ev.step (f := fun _ => some true) (fun k => by simp only [impl_isShort.l0]; rw [if_neg h]) (Ev.now _)⟩
/-- A letter of a word for a movers. -/
def letterB (a x : Int) : Bool := !(x == 0) && (decide (-a ≤ x) && decide (x ≤ a))
def wordB (a : Int) (l : List Int) : Bool := decide (1 ≤ a ∧ a ≤ 4 ∧ l.length ≤ 12) && l.all (letterB a)
theorem In_eq (a b c : Int) : spec_l01In.f a b c = some (decide (b ≤ a ∧ a ≤ c)) := by
  unfold spec_l01In.f
  by_cases h : a ≥ b
  · rw [if_pos h]; congr 1; exact decide_eq_decide.2 ⟨fun h2 => ⟨h, h2⟩, fun h2 => h2.2⟩
  · rw [if_neg h]; congr 1; exact (decide_eq_false (fun h2 => h h2.1)).symm
theorem spec_word_l (a : Int) (l : List Int) (h1 : 1 ≤ a) (h2 : a ≤ 4) (hl : l.length ≤ 35184372088832) : Ev (fun k => spec_l09Word.l0 k a l 0) (if l.all (letterB a) then true else false) := by
  rw [← all_range_rd]
  have stepj : ∀ (i : Nat) (r : Bool), i < l.length → letterB a (rd l (i : Int)) = true → Ev (fun k => spec_l09Word.l0 k a l ((i : Int) + 1)) r → Ev (fun k => spec_l09Word.l0 k a l i) r := by
    intro i r hi hp hr
    refine Ev.step (f := fun k => spec_l09Word.l0 k a l ((i : Int) + 1)) (fun k => ?_) hr
    simp only [letterB, Bool.and_eq_true, Bool.not_eq_true', beq_eq_false_iff_ne, decide_eq_true_eq] at hp
    simp only [spec_l09Word.l0]
    rw [if_pos (by omega), if_pos (by omega), if_neg hp.1, In_eq, wid (by omega) (by omega), decide_eq_true hp.2]
    simp only [Option.bind_some, if_true]
    rw [wid (by omega) (by omega)]
  refine all_ev (fun k i => spec_l09Word.l0 k a l i) l.length (fun i => letterB a (rd l (i : Int))) true false (fun i hi hp => stepj i true hi hp) (fun i hi hp => stepj i false hi hp) ?_ ?_
  · intro i hi hp
    refine Ev.step (f := fun _ => some false) (fun k => ?_) (Ev.now _)
    simp only [spec_l09Word.l0]
    rw [if_pos (by omega), if_pos (by omega)]
    by_cases e : rd l (i : Int) = 0
    · rw [if_pos e]
    · rw [if_neg e, In_eq, wid (by omega) (by omega), decide_eq_false]
      · simp
      · intro h
        simp only [letterB, Bool.and_eq_false_iff, Bool.not_eq_false', beq_iff_eq, decide_eq_false_iff_not] at hp
        omega
  · exact Ev.step (f := fun _ => some true) (fun k => by simp only [spec_l09Word.l0]; rw [if_neg (by omega)]) (Ev.now _)
theorem spec_word (a : Int) (l : List Int) (hl : l.length ≤ 35184372088832) : Ev (fun k => spec_l09Word.f k a l) (wordB a l) := by
  have hno : Ev (fun k => spec_l09Word.j0 k a l true) false := Ev.step (f := fun _ => some false) (fun k => by simp only [spec_l09Word.j0]; rw [if_pos trivial]) (Ev.now _)
  unfold spec_l09Word.f
  refine Ev.bindv (In_eq _ _ _) ?_
  by_cases h : 1 ≤ a ∧ a ≤ 4
  · rw [decide_eq_true h]
    simp only [if_true]
    by_cases h12 : l.length ≤ 12
    · rw [show decide ((l.length : Int) > 12) = false from decide_eq_false (by omega)]
      unfold wordB
      rw [decide_eq_true (⟨h.1, h.2, h12⟩ : 1 ≤ a ∧ a ≤ 4 ∧ l.length ≤ 12), Bool.true_and]
      refine Ev.step (f := fun k => spec_l09Word.l0 k a l 0) (fun k => by simp only [spec_l09Word.j0]; rw [if_neg (by decide)]) ?_
      have h := spec_word_l a l h.1 h.2 hl
      rwa [show (if l.all (letterB a) = true then true else false) = l.all (letterB a) from by cases l.all (letterB a) <;> rfl] at h
    · rw [show decide ((l.length : Int) > 12) = true from decide_eq_true (by omega)]
      unfold wordB
      rw [decide_eq_false (fun h => h12 h.2.2), Bool.false_and]
      exact hno
  · rw [decide_eq_false h]
    simp only [Bool.false_eq_true, if_false]
    unfold wordB
    rw [decide_eq_false (fun h2 => h ⟨h2.1, h2.2.1⟩), Bool.false_and]
    exact hno
theorem within_one (a x : Int) (h1 : 1 ≤ a) (h2 : a ≤ 4) : Ev (fun k => impl_within.f k a [x]) (decide (-a ≤ x) && decide (x ≤ a)) := by
  unfold impl_within.f
  have e0 : rd [x] 0 = x := rfl
  have w : wrap64 (-a) = -a := wid (by omega) (by omega)
  by_cases hlo : x < -a
  · refine Ev.step (f := fun _ => some false) (fun k => ?_) ?_
    · simp only [impl_within.l0, List.length_singleton, e0, w]
      rw [if_pos (by decide), if_pos (by decide), if_pos (by decide), if_pos hlo]
    · rw [decide_eq_false (by omega), Bool.false_and]; exact Ev.now _
  · by_cases hhi : x > a
    · refine Ev.step (f := fun _ => some false) (fun k => ?_) ?_
      · simp only [impl_within.l0, List.length_singleton, e0, w]
        rw [if_pos (by decide), if_pos (by decide), if_pos (by decide), if_neg hlo, if_pos hhi]
      · rw [decide_eq_false (show ¬ x ≤ a by omega), Bool.and_false]; exact Ev.now _
    · refine Ev.step (f := fun k => impl_within.l0 k a [x] 1 1) (fun k => ?_) ?_
      · simp only [impl_within.l0, List.length_singleton, e0, w]
        rw [if_pos (by decide), if_pos (by decide), if_pos (by decide), if_neg hlo, if_neg hhi, wid (by decide) (by decide)]; rfl
      · rw [decide_eq_true (show -a ≤ x by omega), decide_eq_true (show x ≤ a by omega)]
        exact Ev.step (f := fun _ => some true) (fun k => by simp only [impl_within.l0]; rw [if_neg (by decide)]) (Ev.now _)
theorem impl_word_l (a : Int) (l : List Int) (h1 : 1 ≤ a) (h2 : a ≤ 4) (hl : l.length ≤ 35184372088832) : Ev (fun k => impl_isWord.l0 k a l l (l.length : Int) 0) (if l.all (letterB a) then decide ((l.length : Int) ≤ 12) else false) := by
  rw [← all_range_rd]
  have stepj : ∀ (i : Nat) (r : Bool), i < l.length → letterB a (rd l (i : Int)) = true → Ev (fun k => impl_isWord.l0 k a l l (l.length : Int) ((i : Int) + 1)) r → Ev (fun k => impl_isWord.l0 k a l l (l.length : Int) i) r := by
    intro i r hi hp hr
    have hp2 := hp
    simp only [letterB, Bool.and_eq_true, Bool.not_eq_true', beq_eq_false_iff_ne, decide_eq_true_eq] at hp
    refine Ev.step (f := fun k => (impl_within.f k a [rd l (i : Int)]).bind fun t => if t = true then impl_isWord.l0 k a l l (l.length : Int) ((i : Int) + 1) else some false) (fun k => ?_) ?_
    · simp only [impl_isWord.l0]
      rw [if_pos (by omega), if_pos (by omega), if_pos (by omega), if_neg hp.1, show wrap64 ((i : Int) + 1) = (i : Int) + 1 from wid (by omega) (by omega)]
    · refine Ev.bind (within_one a _ h1 h2) ?_
      rw [decide_eq_true hp.2.1, decide_eq_true hp.2.2]
      simpa using hr
  refine all_ev (fun k i => impl_isWord.l0 k a l l (l.length : Int) i) l.length (fun i => letterB a (rd l (i : Int))) (decide ((l.length : Int) ≤ 12)) false (fun i hi hp => stepj i _ hi hp) (fun i hi hp => stepj i _ hi hp) ?_ ?_
  · intro i hi hp
    by_cases e : rd l (i : Int) = 0
    · refine Ev.step (f := fun _ => some false) (fun k => ?_) (Ev.now _)
      simp only [impl_isWord.l0]
      rw [if_pos (by omega), if_pos (by omega), if_pos (by omega), if_pos e]
    · refine Ev.step (f := fun k => (impl_within.f k a [rd l (i : Int)]).bind fun t => if t = true then impl_isWord.l0 k a l l (l.length : Int) ((i : Int) + 1) else some false) (fun k => ?_) ?_
      · simp only [impl_isWord.l0]
        rw [if_pos (by omega), if_pos (by omega), if_pos (by omega), if_neg e, show wrap64 ((i : Int) + 1) = (i : Int) + 1 from wid (by omega) (by omega)]
      · refine Ev.bind (within_one a _ h1 h2) ?_
        rw [show (decide (-a ≤ rd l (i : Int)) && decide (rd l (i : Int) ≤ a)) = false from by
          simp only [letterB, Bool.and_eq_false_iff, Bool.not_eq_false', beq_iff_eq] at hp
          rcases hp with hp | hp
          · exact absurd hp e
          · rcases hp with hp | hp <;> simp only [hp, Bool.false_and, Bool.and_false]]
        simp only [Bool.false_eq_true, if_false]
        exact Ev.now _
  · exact Ev.step (f := fun _ => some (decide ((l.length : Int) ≤ 12))) (fun k => by simp only [impl_isWord.l0]; rw [if_neg (by omega)]) (Ev.now _)
theorem FnExactIsShortWord : laws_FnExactIsShortWord.Pure := by
  intro a l _ _ hl8 _
  have hl : l.length ≤ 35184372088832 := by omega
  refine Ev.rounds ?_
  unfold laws_FnExactIsShortWord.f
  by_cases hbig : (l.length : Int) > 1048576
  · simp only [if_pos hbig]; exact Ev.now _
  simp only [if_neg hbig]
  obtain ⟨s, hs⟩ := short_l l hl l.length 1 (by omega) (by omega)
  have fin : Ev (fun k => laws_FnExactIsShortWord.j0 k l l false) true := by
    refine Ev.step (f := fun k => (laws_toInt64S.f k l).bind fun t => (laws_eqInt64S.f k l t).bind fun t => if t = true then some true else some false) (fun k => by simp only [laws_FnExactIsShortWord.j0]; rw [if_neg (by decide)]) ?_
    refine Ev.bind (laws_toInt64S_ev l hl) (Ev.bind (laws_eqInt64S_ev l hl) ?_)
    simp only [if_true]; exact Ev.now _
  have hspec : Ev (fun k => spec_IsShortWord.f k a l) (if wordB a l then (s, 0) else (false, 2)) := by
    unfold spec_IsShortWord.f
    refine Ev.bind (spec_word a l hl) ?_
    cases wordB a l with
    | false => simp only [Bool.false_eq_true, if_false]; exact Ev.now _
    | true =>
      simp only [if_true]
      refine Ev.bind (a := s) ?_ (Ev.now _)
      exact Ev.congr (fun k => by unfold spec_l09Short.f; exact short_same k l 1) hs
  have himpl : Ev (fun k => impl_IsShortWord.f k a l) (if wordB a l then (s, 0) else (false, 2)) := by
    unfold impl_IsShortWord.f impl_isMovers.f
    by_cases h : 1 ≤ a ∧ a ≤ 4
    · simp only [if_pos (show a ≥ 1 from h.1), decide_eq_true h.2, Option.bind_some, if_true]
      refine Ev.bind (a := wordB a l) ?_ ?_
      · unfold impl_isWord.f
        have := impl_word_l a l h.1 h.2 hl
        refine cast (congrArg _ ?_) this
        unfold wordB
        cases l.all (letterB a) with
        | false => simp
        | true => simp only [if_true, Bool.and_true]; exact decide_eq_decide.2 (by omega)
      · cases wordB a l with
        | false => simp only [Bool.false_eq_true, if_false]; exact Ev.now _
        | true =>
          simp only [if_true]
          refine Ev.bind (a := s) ?_ (Ev.now _)
          exact hs
    · have hw : wordB a l = false := by unfold wordB; rw [decide_eq_false (fun h2 => h ⟨h2.1, h2.2.1⟩), Bool.false_and]
      rw [hw]
      by_cases h1 : a ≥ 1
      · simp only [if_pos h1, Option.bind_some, decide_eq_false (show ¬ a ≤ 4 by omega), Bool.false_eq_true, if_false]; exact Ev.now _
      · simp only [if_neg h1, Option.bind_some, Bool.false_eq_true, if_false]; exact Ev.now _
  refine Ev.bind (laws_toInt64S_ev l hl) (Ev.bind hspec (Ev.bind (laws_toInt64S_ev l hl) (Ev.bind himpl ?_)))
  simp only [bne_self_eq_false, Bool.false_eq_true, if_false]
  exact fin

end Go.Proofs.Ytmhlmpcfpkfjcaa.Pure
