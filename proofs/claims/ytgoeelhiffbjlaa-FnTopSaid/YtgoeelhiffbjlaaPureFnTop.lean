/- For every list of bytes, what FnTop draws of it meets the law: the matrix of the drawn normal word makes of the whole ball where the word leads, keeps the distance and is led back by its inverse; no condition beyond the row's. -/
import Derived.Test.YtgoeelhiffbjlaaQTx66
import Derived.Test.YtgoeelhiffbjlaaWSized
namespace Go.Proofs.Ytgoeelhiffbjlaa.PrintWords
open Go.ChangeShapes Go.WideShapes
/-- The name by which the printed row calls the word. -/
theorem sized_ints {H : Type} {enc : TypeId × Value → H} {P : Program} {W : World} {base : Nat} {spare : Nat → Bool} {held : Bool} {t e : TypeId} {k : IntKind} {a : Option Addr} {len cap : Nat} {d : DataW H} {ps : List MemPlace} {ts : List TypeId} {ds : List (DataW H)} {j : Nat}
    (hsz : (DataW.weightsEach P ts ds).all (· ≤ reachBytes) = true) (ht : ts[j]? = some t) (hd : ds[j]? = some d) (hu : P.underlying t = some (.slice e)) (he : P.underlying e = some (.int k)) (hc : P.cellsOf e = 1) {B : Nat} (hB : P.bytesOf e = B)
    (h : DataW.Trod enc P W base spare held t (.slice a len cap) d ps) : len * B ≤ 140737488351232 :=
  Go.Proofs.YtgoeelhiffbjlaaW.PrintWords.sized_ints hsz ht hd hu he hc hB h
end Go.Proofs.Ytgoeelhiffbjlaa.PrintWords
namespace Go.Proofs.Ytgoeelhiffbjlaa.Pure
open Go.RowKit Go.Proofs.Ytgoeelhiffbjlaa.QT Go.Proofs.YtgoeelhiffbjlaaW.PrintWords Go.Proofs.YtgoeelhiffbjlaaW.PrintLast
set_option linter.unusedVariables false
set_option linter.unusedSimpArgs false
set_option linter.unusedSectionVars false

theorem wid {n : Int} (h0 : -9223372036854775808 ≤ n) (h1 : n ≤ 9223372036854775807) : wrap64 n = n := by unfold wrap64; omega
theorem rd_nat (l : List Int) (j : Nat) (h : j < l.length) : rd l (j : Int) = l[j] := by
  unfold rd; rw [Int.toNat_natCast, List.getD_eq_getElem?_getD, List.getElem?_eq_getElem h]; rfl
theorem tmod_cast {a m : Int} (h : 0 ≤ a) : Int.tmod a m = a % m := Int.tmod_eq_emod_of_nonneg h
theorem Ev.up {α : Type} {g : Nat → Option α} {r : α} (h : Ev (fun k => g (k + 1)) r) : Ev g r := Ev.step (f := fun k => g (k + 1)) (fun _ => rfl) h

structure okS (c : List Int) (q : Int) : Prop where
  b : ∀ x ∈ c, 0 ≤ x ∧ x ≤ 255
  l : c.length ≤ 5000
  p : 0 ≤ q ∧ q ≤ c.length
theorem mask24 {n : Int} (h0 : 0 ≤ n) (h1 : n < 18446744073709551616) : Go.bits .and .u64 n 16777215 = n % 16777216 := by
  obtain ⟨m, rfl⟩ : ∃ m : Nat, n = (m : Int) := ⟨n.toNat, by omega⟩
  have h := Go.bits_and_u64_nat m 16777215 (by omega) (by omega)
  have e : m &&& 16777215 = m % 16777216 := Nat.and_two_pow_sub_one_eq_mod m 24
  rw [e] at h
  rw [show ((16777215 : Nat) : Int) = 16777215 from rfl] at h
  rw [h]; omega
theorem below_ok {c : List Int} {q : Int} (S : okS c q) (h a : Int) (ha : 1 ≤ a) : ∃ v q' h', laws_dice_below.f c q h a = some (v, q', h') ∧ okS c q' ∧ 0 ≤ v ∧ v < a := by
  have Sl := S.l
  have Sp := S.p
  unfold laws_dice_below.f
  rw [if_neg (show ¬ a < 1 by omega)]
  obtain ⟨w, hw⟩ : ∃ w, w = IntKind.u64.wrap (IntKind.u64.wrap (h * 6364136223846793005) + 1442695040888963407) := ⟨_, rfl⟩
  have hw0 : 0 ≤ w ∧ w < 18446744073709551616 := by rw [hw, IntKind.wrap_u64]; omega
  rw [← hw, mask24 (by omega) (by omega), wid (n := w / 8589934592 % 16777216) (by omega) (by omega)]
  by_cases h2 : q < (c.length : Int)
  · have hb : 0 ≤ rd c q ∧ rd c q ≤ 255 := by
      obtain ⟨m, rfl⟩ : ∃ m : Nat, q = (m : Int) := ⟨q.toNat, by omega⟩
      rw [rd_nat c m (by omega)]; exact S.b _ (List.getElem_mem _)
    rw [if_pos h2, if_pos Sp.1, if_neg (show ¬ a = 0 by omega), wid (n := rd c q) (by omega) (by omega), wid (n := w / 8589934592 % 16777216 + rd c q) (by omega) (by omega), wid (n := q + 1) (by omega) (by omega), tmod_cast (by omega)]
    exact ⟨_, _, _, rfl, ⟨S.b, S.l, by omega⟩, Int.emod_nonneg _ (by omega), Int.emod_lt_of_pos _ (by omega)⟩
  · rw [if_neg h2, if_neg (show ¬ a = 0 by omega), tmod_cast (by omega)]
    exact ⟨_, _, _, rfl, S, Int.emod_nonneg _ (by omega), Int.emod_lt_of_pos _ (by omega)⟩
theorem roll_ok {c : List Int} (hl : c.length ≤ 5000) (a : Int) : ∃ h, Ev (fun k => laws_roll.f k c a) (c, 0, h) := by
  have key : ∀ d i : Nat, i + d = c.length → ∀ h, ∃ h', Ev (fun k => laws_roll.l0 k c i c 0 h) (c, 0, h') := by
    intro d
    induction d with
    | zero =>
      intro i hi h
      refine ⟨h, Ev.up ?_⟩
      simp only [laws_roll.l0, if_neg (show ¬ (i : Int) < (c.length : Int) by omega)]; exact Ev.now _
    | succ d ih =>
      intro i hi h
      obtain ⟨h', e⟩ := ih (i + 1) (by omega) (IntKind.u64.wrap ((IntKind.u64.wrap ((IntKind.u64.wrap (h * 1099511628211)) + (IntKind.u64.wrap (rd c i)))) + 5))
      refine ⟨h', Ev.up ?_⟩
      simp only [laws_roll.l0, if_pos (show (i : Int) < (c.length : Int) by omega), if_pos (show (0 : Int) ≤ (i : Int) by omega)]
      rw [wid (n := (i : Int) + 1) (by omega) (by omega)]
      exact e
  unfold laws_roll.f
  exact key c.length 0 (by omega) _
def others : List (List Int) := [[], [48], [49], [48, 48], [48, 49], [49, 48], [49, 49]]
def words : List (List Int) := [[], [117], [117, 117]].flatMap fun u => others.map fun o => u ++ o
set_option maxRecDepth 100000 in
theorem top_2 (K : Nat) (c : List Int) (q h : Int) : (words.all fun w => others.all fun o => laws_FnTop.l2 (K + 80) 2 (strOfNums w) (strOfNums o) 0 c q h == some true) = true := by kernel_rfl
set_option maxRecDepth 100000 in
theorem top_3 (K : Nat) (c : List Int) (q h : Int) : (words.all fun w => others.all fun o => laws_FnTop.l2 (K + 80) 3 (strOfNums w) (strOfNums o) 0 c q h == some true) = true := by kernel_rfl
set_option maxRecDepth 100000 in
theorem top_5 (K : Nat) (c : List Int) (q h : Int) : (words.all fun w => others.all fun o => laws_FnTop.l2 (K + 80) 5 (strOfNums w) (strOfNums o) 0 c q h == some true) = true := by kernel_rfl
theorem top_core {p : Int} (hp : p = 2 ∨ p = 3 ∨ p = 5) (w o : List Int) (hw : w ∈ words) (ho : o ∈ others) (c : List Int) (q h : Int) : Ev (fun k => laws_FnTop.l2 k p (strOfNums w) (strOfNums o) 0 c q h) true := by
  refine ⟨80, fun k hk => ?_⟩
  obtain ⟨K, rfl⟩ : ∃ K, k = K + 80 := ⟨k - 80, by omega⟩
  rcases hp with rfl | rfl | rfl
  · exact eq_of_beq (List.all_eq_true.1 (List.all_eq_true.1 (top_2 K c q h) w hw) o ho)
  · exact eq_of_beq (List.all_eq_true.1 (List.all_eq_true.1 (top_3 K c q h) w hw) o ho)
  · exact eq_of_beq (List.all_eq_true.1 (List.all_eq_true.1 (top_5 K c q h) w hw) o ho)
theorem str_snoc (l : List Int) (x : Int) : strOfNums l ++ strOfNums [x] = strOfNums (l ++ [x]) := by
  apply ByteArray.ext
  rw [ByteArray.data_append]
  apply Array.toList_inj.1
  rw [Array.toList_append]
  simp [strOfNums]
theorem two_of {v : Int} (h0 : 0 ≤ v) (h1 : v < 2) : v = 0 ∨ v = 1 := by omega
theorem top_l2 {p : Int} (hp : p = 2 ∨ p = 3 ∨ p = 5) (w : List Int) (hw : w ∈ words) (n : Nat) : ∀ (o : List Int) (c : List Int) (q h : Int), (o.length + n ≤ 2 ∧ ∀ x ∈ o, x = 48 ∨ x = 49) → okS c q → Ev (fun k => laws_FnTop.l2 k p (strOfNums w) (strOfNums o) n c q h) true := by
  induction n with
  | zero =>
    intro o c q h ho S
    refine top_core hp w o hw ?_ c q h
    obtain ⟨hl, hx⟩ := ho
    match o, hl, hx with
    | [], _, _ => decide
    | [a], _, hx => rcases hx a (by simp) with rfl | rfl <;> decide
    | [a, b], _, hx => rcases hx a (by simp) with rfl | rfl <;> rcases hx b (by simp) with rfl | rfl <;> decide
  | succ n ih =>
    intro o c q h ho S
    obtain ⟨v, q', h', e, S', v0, v1⟩ := below_ok S h 2 (by omega)
    refine Ev.up ?_
    simp only [laws_FnTop.l2, if_pos (show ((n + 1 : Nat) : Int) > 0 by omega), Option.bind_some, e, List.length_cons, List.length_nil, if_pos v0, if_pos (show v < ((0 + 1 + 1 : Nat) : Int) by omega)]
    rw [wid (n := ((n + 1 : Nat) : Int) - 1) (by omega) (by omega), show ((n + 1 : Nat) : Int) - 1 = (n : Int) by omega]
    rcases two_of v0 v1 with rfl | rfl
    · have e1 : rdOf ByteArray.empty [(⟨#[49]⟩ : ByteArray), (⟨#[48]⟩ : ByteArray)] 0 = strOfNums [49] := rfl
      simp only [e1, strOfNums_size, str_snoc, if_pos (show o.length + [(49 : Int)].length ≤ 9223372036854775807 by simp; omega)]
      refine ih (o ++ [49]) c q' h' ⟨by simp; omega, fun x hx => ?_⟩ S'
      rcases List.mem_append.1 hx with hx | hx
      · exact ho.2 x hx
      · exact Or.inr (List.mem_singleton.1 hx)
    · have e1 : rdOf ByteArray.empty [(⟨#[49]⟩ : ByteArray), (⟨#[48]⟩ : ByteArray)] 1 = strOfNums [48] := rfl
      simp only [e1, strOfNums_size, str_snoc, if_pos (show o.length + [(48 : Int)].length ≤ 9223372036854775807 by simp; omega)]
      refine ih (o ++ [48]) c q' h' ⟨by simp; omega, fun x hx => ?_⟩ S'
      rcases List.mem_append.1 hx with hx | hx
      · exact ho.2 x hx
      · exact Or.inl (List.mem_singleton.1 hx)
theorem top_l1 {p : Int} (hp : p = 2 ∨ p = 3 ∨ p = 5) (u : List Int) (hu : u ∈ [[], [117], [117, 117]]) (n : Nat) : ∀ (o : List Int) (c : List Int) (q h : Int), (o.length + n ≤ 2 ∧ ∀ x ∈ o, x = 48 ∨ x = 49) → okS c q → Ev (fun k => laws_FnTop.l1 k p (strOfNums (u ++ o)) (⟨#[]⟩ : ByteArray) n c q h) true := by
  induction n with
  | zero =>
    intro o c q h ho S
    obtain ⟨v, q', h', e, S', v0, v1⟩ := below_ok S h 3 (by omega)
    obtain ⟨m, rfl⟩ : ∃ m : Nat, v = (m : Int) := ⟨v.toNat, by omega⟩
    have hw : u ++ o ∈ words := by
      unfold words
      refine List.mem_flatMap.2 ⟨u, hu, List.mem_map.2 ⟨o, ?_, rfl⟩⟩
      obtain ⟨hl, hx⟩ := ho
      match o, hl, hx with
      | [], _, _ => decide
      | [a], _, hx => rcases hx a (by simp) with rfl | rfl <;> decide
      | [a, b], _, hx => rcases hx a (by simp) with rfl | rfl <;> rcases hx b (by simp) with rfl | rfl <;> decide
    refine Ev.up ?_
    simp only [laws_FnTop.l1, if_neg (show ¬ ((0 : Nat) : Int) > 0 by omega), Option.bind_some, e]
    exact top_l2 hp _ hw m [] c q' h' ⟨by simp; omega, fun x hx => absurd hx List.not_mem_nil⟩ S'
  | succ n ih =>
    intro o c q h ho S
    obtain ⟨v, q', h', e, S', v0, v1⟩ := below_ok S h 2 (by omega)
    have hu2 : u.length ≤ 2 := by
      simp only [List.mem_cons, List.not_mem_nil, or_false] at hu
      rcases hu with rfl | rfl | rfl <;> decide
    refine Ev.up ?_
    simp only [laws_FnTop.l1, if_pos (show ((n + 1 : Nat) : Int) > 0 by omega), Option.bind_some, e, List.length_cons, List.length_nil, if_pos v0, if_pos (show v < ((0 + 1 + 1 : Nat) : Int) by omega)]
    rw [wid (n := ((n + 1 : Nat) : Int) - 1) (by omega) (by omega), show ((n + 1 : Nat) : Int) - 1 = (n : Int) by omega]
    rcases two_of v0 v1 with rfl | rfl
    · have e1 : rdOf ByteArray.empty [(⟨#[48]⟩ : ByteArray), (⟨#[49]⟩ : ByteArray)] 0 = strOfNums [48] := rfl
      simp only [e1, strOfNums_size, str_snoc, if_pos (show (u ++ o).length + [(48 : Int)].length ≤ 9223372036854775807 by simp; omega)]
      rw [List.append_assoc]
      refine ih (o ++ [48]) c q' h' ⟨by simp; omega, fun x hx => ?_⟩ S'
      rcases List.mem_append.1 hx with hx | hx
      · exact ho.2 x hx
      · exact Or.inl (List.mem_singleton.1 hx)
    · have e1 : rdOf ByteArray.empty [(⟨#[48]⟩ : ByteArray), (⟨#[49]⟩ : ByteArray)] 1 = strOfNums [49] := rfl
      simp only [e1, strOfNums_size, str_snoc, if_pos (show (u ++ o).length + [(49 : Int)].length ≤ 9223372036854775807 by simp; omega)]
      rw [List.append_assoc]
      refine ih (o ++ [49]) c q' h' ⟨by simp; omega, fun x hx => ?_⟩ S'
      rcases List.mem_append.1 hx with hx | hx
      · exact ho.2 x hx
      · exact Or.inr (List.mem_singleton.1 hx)
theorem top_l0 {p : Int} (hp : p = 2 ∨ p = 3 ∨ p = 5) (n : Nat) : ∀ (u : List Int) (c : List Int) (q h : Int), (u.length + n ≤ 2 ∧ ∀ x ∈ u, x = 117) → okS c q → Ev (fun k => laws_FnTop.l0 k p (strOfNums u) (⟨#[]⟩ : ByteArray) n c q h) true := by
  induction n with
  | zero =>
    intro u c q h hu S
    obtain ⟨v, q', h', e, S', v0, v1⟩ := below_ok S h 3 (by omega)
    obtain ⟨m, rfl⟩ : ∃ m : Nat, v = (m : Int) := ⟨v.toNat, by omega⟩
    have hw : u ∈ [[], [117], [117, 117]] := by
      obtain ⟨hl, hx⟩ := hu
      match u, hl, hx with
      | [], _, _ => decide
      | [a], _, hx => obtain rfl := hx a (by simp); decide
      | [a, b], _, hx => obtain rfl := hx a (by simp); obtain rfl := hx b (by simp); decide
    refine Ev.up ?_
    simp only [laws_FnTop.l0, if_neg (show ¬ ((0 : Nat) : Int) > 0 by omega), Option.bind_some, e]
    have := top_l1 hp u hw m [] c q' h' ⟨by simp; omega, fun x hx => absurd hx List.not_mem_nil⟩ S'
    rw [List.append_nil] at this
    exact this
  | succ n ih =>
    intro u c q h hu S
    refine Ev.up ?_
    have e1 : (⟨#[117]⟩ : ByteArray) = strOfNums [117] := rfl
    simp only [laws_FnTop.l0, if_pos (show ((n + 1 : Nat) : Int) > 0 by omega), e1, strOfNums_size, str_snoc, if_pos (show u.length + 1 ≤ 9223372036854775807 by omega)]
    rw [wid (n := ((n + 1 : Nat) : Int) - 1) (by omega) (by omega), show ((n + 1 : Nat) : Int) - 1 = (n : Int) by omega]
    refine ih (u ++ [117]) c q h ⟨by simp; omega, fun x hx => ?_⟩ S
    rcases List.mem_append.1 hx with hx | hx
    · exact hu.2 x hx
    · exact List.mem_singleton.1 hx
theorem FnTop : laws_FnTop.Pure := by
  intro c _ _ hwf
  refine Ev.rounds ?_
  unfold laws_FnTop.f laws_big.f
  simp only [Option.bind_some]
  by_cases hbig : (c.length : Int) > 4096
  · simp only [decide_eq_true hbig, if_true]; exact Ev.now _
  simp only [decide_eq_false hbig, Bool.false_eq_true, if_false]
  have hb : ∀ x ∈ c, 0 ≤ x ∧ x ≤ 255 := fun x hx => by
    have := hwf x hx
    simp only [Lit.wf, Bool.and_eq_true, decide_eq_true_eq] at this
    exact ⟨this.1, this.2⟩
  have S : okS c 0 := ⟨hb, by omega, by omega⟩
  obtain ⟨h, e⟩ := roll_ok (c := c) (by omega) 9901
  refine Ev.bind e ?_
  obtain ⟨v, q', h', e1, S', v0, v1⟩ := below_ok S h 3 (by omega)
  obtain ⟨v2, q2, h2, e2, S2, v20, v21⟩ := below_ok S' h' 3 (by omega)
  obtain ⟨m, rfl⟩ : ∃ m : Nat, v2 = (m : Int) := ⟨v2.toNat, by omega⟩
  simp only [e1, e2, Option.bind_some, List.length_cons, List.length_nil, if_pos v0, if_pos (show v < ((0 + 1 + 1 + 1 : Nat) : Int) by omega)]
  refine top_l0 ?_ m [] c q2 h2 ⟨by simp; omega, fun x hx => absurd hx List.not_mem_nil⟩ S2
  have : v = 0 ∨ v = 1 ∨ v = 2 := by omega
  rcases this with rfl | rfl | rfl
  · exact Or.inl rfl
  · exact Or.inr (Or.inl rfl)
  · exact Or.inr (Or.inr rfl)

end Go.Proofs.Ytgoeelhiffbjlaa.Pure
