/- The evaluator of the functions' texts, and its proof (part 1). No condition. -/
import Derived.Orders
import Derived.Tactics
import Derived.RegionTactic
import Derived.Below
import Derived.RowKit
import Derived.OwnWalk
import Derived.Maps.AppendAt
import Derived.Laws.AppendOwn
import Derived.Laws.Entries
import Derived.Laws.BytesArg
import Derived.Laws.CopyRow
import Derived.Laws.Rows
import Derived.Laws.Tables
import Derived.Laws.Closers25b
import Derived.Laws.BitsLemmas
import Derived.Laws.StructEq
import Derived.ChangeKeysEq
import Derived.Great.BuildSlice
set_option linter.unusedVariables false
set_option linter.unusedSimpArgs false
namespace Go.Tx

/-- From 'k' still to be done the activation of 'f' comes to an end that 'R' takes. -/
def Goes (P : Program) (f : FuncId) (R : Ending → World → Prop) (k : List Item) (a : Act) (w : World) : Prop :=
  ∀ (cs : List Frame) (b : Frame), b.fn = f → b.kind = .normal →
    ∃ e w' fr, R e w' ∧ Comes P (lone (b.at a k) cs w) (lone fr cs w') e ∧ fr.fn = f ∧ fr.leaving P w' e

section
variable {P : Program} {f : FuncId} {R : Ending → World → Prop} {k k' : List Item} {a a' : Act} {w w' : World}

theorem Goes.of_step (hs : ∀ (b : Frame) cs, step P (lone (b.at a k) cs w) = .next (lone (b.at a' k') cs w')) (h : Goes P f R k' a' w') : Goes P f R k a w := by
  intro cs b hb hk
  obtain ⟨e, w2, fr, hR, hc, h1, h2⟩ := h cs b hb hk
  exact ⟨e, w2, fr, hR, hc.of_steps (.one (hs b cs)), h1, h2⟩
theorem goes_skip (h : Goes P f R k a w) : Goes P f R (.code .skip :: k) a w := .of_step (fun _ _ => step_skip) h
theorem goes_label {l : Nat} (h : Goes P f R k a w) : Goes P f R (.code (.label l) :: k) a w := .of_step (fun _ _ => step_label) h
theorem goes_inBlock {id : Nat} (h : Goes P f R k a w) : Goes P f R (.inBlock id :: k) a w := .of_step (fun _ _ => step_inBlock) h
theorem goes_seq {x y : Code} (h : Goes P f R (.code x :: .code y :: k) a w) : Goes P f R (.code (.seq x y) :: k) a w := .of_step (fun _ _ => step_seq) h
theorem goes_cond {c : Operand} {x y : Code} {t : Bool} (hc : a.eval c = .bool t) (h : Goes P f R (.code (if t then x else y) :: k) a w) : Goes P f R (.code (.cond c x y) :: k) a w :=
  .of_step (fun _ _ => step_cond hc) h
theorem goes_block {id : Nat} {c : Code} (h : Goes P f R (.code c :: .inBlock id :: k) a w) : Goes P f R (.code (.block id c) :: k) a w := .of_step (fun _ _ => step_block) h
theorem goes_loop {c : Code} (h : Goes P f R (.code c :: .inLoop c :: k) a w) : Goes P f R (.code (.loop c) :: k) a w := .of_step (fun _ _ => step_loop) h
theorem goes_inLoop {c : Code} (h : Goes P f R (.code c :: .inLoop c :: k) a w) : Goes P f R (.inLoop c :: k) a w := .of_step (fun _ _ => step_inLoop) h
theorem goes_exit {id : Nat} (hx : exitTo id k = some k') (h : Goes P f R k' a w) : Goes P f R (.code (.exit id) :: k) a w := .of_step (fun _ _ => step_exit hx) h
/-- A region, or any piece of code with a proof of its own that ends where its text ends. -/
theorem goes_wp {c : Code} (h : c.wp P (fun e a' w' => e = .normal ∧ Goes P f R k a' w') a w) : Goes P f R (.code c :: k) a w := by
  intro cs b hb hk
  obtain ⟨e, a1, w1, ⟨rfl, hg⟩, harr⟩ := h b k cs
  obtain ⟨e, w2, fr, hR, hc, h1, h2⟩ := hg cs b hb hk
  exact ⟨e, w2, fr, hR, hc.of_steps harr, h1, h2⟩
theorem goes_ret {fn : Func} {v : Value} (hf : P.funcs[f]? = some fn) (hd : a.defers = []) (hr : (results fn a.tmps).run P w = .ok v w) (hR : R (.returned v) w) : Goes P f R (.code .ret :: k) a w := by
  intro cs b hb hk
  exact ⟨.returned v, w, _, hR, .one step_ret, hb, rfl, hd, hk, fn, by rw [← hb] at hf; exact hf, hr⟩
theorem goes_end {fn : Func} {v : Value} (hf : P.funcs[f]? = some fn) (hd : a.defers = []) (hr : (results fn a.tmps).run P w = .ok v w) (hR : R (.returned v) w) : Goes P f R [] a w := by
  intro cs b hb hk
  exact ⟨.returned v, w, _, hR, .one step_end, hb, rfl, hd, hk, fn, by rw [← hb] at hf; exact hf, hr⟩
theorem calls_of_goes {fn : Func} {c : Code} {args : Array Value} (hf : P.funcs[f]? = some fn) (hb : fn.body = some c)
    (h : Goes P f R [.code c] { tmps := args ++ Array.replicate (fn.ntmps - args.size) undef, defers := [] } w) : Calls P f args w R := by
  intro cs
  let b : Frame := { (default : Frame) with fn := f, kind := .normal }
  have henter : Frame.enter P f args .normal = b.at { tmps := args ++ Array.replicate (fn.ntmps - args.size) undef, defers := [] } [.code c] := by
    simp [Frame.enter, Frame.at, hf, hb, b]
  obtain ⟨e, w', fr, hR, hc, h1, h2⟩ := h cs b rfl rfl
  rw [← henter] at hc
  exact ⟨e, w', fr, hR, hc, h1, h2⟩
end

/-! ## Each order comes to the same -/
section
variable {σ : Type}
/-- What an operation asks of a state ('ok') and makes of it ('ap'). -/
structure Mv (σ : Type) where
  ok : σ → Prop
  ap : σ → σ
/-- Two operations that do not touch one another. -/
structure Indep (t u : Mv σ) : Prop where
  l : ∀ s, t.ok (u.ap s) ↔ t.ok s
  r : ∀ s, u.ok (t.ap s) ↔ u.ok s
  c : ∀ s, t.ap (u.ap s) = u.ap (t.ap s)

variable (m : Nat → Mv σ)
/-- The operations of 'L' below 'k', in the order of the text. -/
def fold (L : Nat → Bool) : Nat → σ → σ
  | 0, s => s
  | k + 1, s => if L k then (m k).ap (fold L k s) else fold L k s

variable {m} {n : Nat} {pred : Nat → Nat → Bool} {L : Nat → Bool}
/-- 'pred i j': i stands ahead of j by an edge, or by a way of edges. -/
def Apart (m : Nat → Mv σ) (n : Nat) (pred : Nat → Nat → Bool) : Prop := ∀ i j, i < j → j < n → pred i j = false → Indep (m i) (m j)
def Shut (n : Nat) (pred : Nat → Nat → Bool) (L : Nat → Bool) : Prop := ∀ i j, i < n → j < n → L j = true → pred i j = true → L i = true

theorem fold_comm (ha : Apart m n pred) (hL : Shut n pred L) {k : Nat} (hk : k < n) (hkL : L k = true) (s : σ) :
    ∀ j, j ≤ k → (m k).ap (fold m (fun i => !L i) j s) = fold m (fun i => !L i) j ((m k).ap s)
  | 0, _ => rfl
  | j + 1, hj => by
    have ih := fold_comm ha hL hk hkL s j (by omega)
    rcases Bool.eq_false_or_eq_true (L j) with hl | hl
    · simpa [fold, hl] using ih
    · have hp : pred j k = false := by
        cases hp : pred j k with
        | false => rfl
        | true => have := hL j k (by omega) hk hkL hp; rw [this] at hl; cases hl
      simp only [fold, hl, Bool.not_false, if_true]
      rw [← (ha j k (by omega) hk hp).c, ih]
theorem fold_parts (ha : Apart m n pred) (hL : Shut n pred L) (s : σ) :
    ∀ k, k ≤ n → fold m (fun _ => true) k s = fold m (fun i => !L i) k (fold m L k s)
  | 0, _ => rfl
  | k + 1, hk => by
    have ih := fold_parts ha hL s k (by omega)
    rcases Bool.eq_false_or_eq_true (L k) with hl | hl
    · simp only [fold, if_true, ih, hl, Bool.not_true]; exact fold_comm ha hL (by omega) hl _ k (Nat.le_refl _)
    · simp [fold, ih, hl]
/-- An operation that is ready may run: what it asks holds. -/
theorem fold_ok (ha : Apart m n pred) (hL : Shut n pred L) {s : σ} {i : Nat} (hi : i < n) (hiL : L i = false) (hr : ∀ j, j < n → pred j i = true → L j = true)
    (hok : (m i).ok (fold m (fun _ => true) i s)) : (m i).ok (fold m L n s) := by
  rw [fold_parts ha hL s i (by omega)] at hok
  have h1 : ∀ j, j ≤ i → ∀ x, (m i).ok (fold m (fun i => !L i) j x) → (m i).ok x := by
    intro j
    induction j with
    | zero => exact fun _ _ h => h
    | succ j ih =>
      intro hj x h
      simp only [fold] at h
      cases hl : L j with
      | true => simp [hl] at h; exact ih (by omega) x h
      | false =>
        simp [hl] at h
        have hp : pred j i = false := by
          cases hp : pred j i with
          | false => rfl
          | true => have := hr j (by omega) hp; rw [this] at hl; cases hl
        exact ih (by omega) x (((ha j i (by omega) hi hp).r _).1 h)
  have h2 := h1 i (Nat.le_refl _) _ hok
  have h3 : ∀ d, i + d ≤ n → (m i).ok (fold m L (i + d) s) := by
    intro d
    induction d with
    | zero => exact fun _ => h2
    | succ d ih =>
      intro hd
      have := ih (by omega)
      rw [← Nat.add_assoc]
      simp only [fold]
      split
      · rename_i hl
        rcases Nat.eq_zero_or_pos d with rfl | h0
        · rw [Nat.add_zero, hiL] at hl; cases hl
        have hp : pred i (i + d) = false := by
          cases hp : pred i (i + d) with
          | false => rfl
          | true => have := hL i (i + d) hi (by omega) hl hp; rw [this] at hiL; cases hiL
        exact ((ha i (i + d) (by omega) (by omega) hp).l _).2 this
      · exact this
  have := h3 (n - i) (by omega)
  rwa [show i + (n - i) = n by omega] at this
/-- It comes to the set with it. -/
theorem fold_add (ha : Apart m n pred) (hL : Shut n pred L) {s : σ} {i : Nat} (hi : i < n) (hiL : L i = false) :
    fold m (fun j => j == i || L j) n s = (m i).ap (fold m L n s) := by
  have h0 : ∀ j, j ≤ i → fold m (fun j => j == i || L j) j s = fold m L j s := by
    intro j
    induction j with
    | zero => exact fun _ => rfl
    | succ j ih =>
      intro hj
      simp only [fold, ih (by omega)]
      have : (j == i) = false := by simp; omega
      simp [this]
  have h3 : ∀ d, i + d + 1 ≤ n → fold m (fun j => j == i || L j) (i + d + 1) s = (m i).ap (fold m L (i + d + 1) s) := by
    intro d
    induction d with
    | zero => intro _; simp [fold, h0 i (Nat.le_refl _), hiL]
    | succ d ih =>
      intro hd
      have ih := ih (by omega)
      rw [show i + (d + 1) + 1 = (i + d + 1) + 1 by omega]
      have hn : (i + d + 1 == i) = false := by simp; omega
      rw [fold, ih]
      conv => rhs; rw [fold]
      simp only [hn, Bool.false_or]
      split
      · rename_i hl
        have hp : pred i (i + d + 1) = false := by
          cases hp : pred i (i + d + 1) with
          | false => rfl
          | true => have := hL i (i + d + 1) hi (by omega) hl hp; rw [this] at hiL; cases hiL
        exact ((ha i (i + d + 1) (by omega) (by omega) hp).c _).symm
      · rfl
  have := h3 (n - i - 1) (by omega)
  rwa [show i + (n - i - 1) + 1 = n by omega] at this
theorem fold_congr {L L' : Nat → Bool} {s : σ} : ∀ k, (∀ j, j < k → L j = L' j) → fold m L k s = fold m L' k s
  | 0, _ => rfl
  | k + 1, h => by simp only [fold, h k (Nat.lt_succ_self _), fold_congr k (fun j hj => h j (by omega))]
end

/-! ## A region whose order is drawn -/
section
variable {P : Program} {ops : Array Oper} {Q : Exit → Act → World → Prop} {σ : Type}
/-- Operation 'o' moves states as 'm' says, in whatever order. -/
def Does (P : Program) (ops : Array Oper) (Rel : σ → Act → World → Prop) (o : Oper) (m : Mv σ) : Prop :=
  ∀ (Q : Exit → Act → World → Prop) (s : σ) (a : Act) (w : World) (K : Act → World → Prop), Rel s a w → m.ok s → (∀ a' w', Rel (m.ap s) a' w' → K a' w') →
    if Region.wanted o (yielded ops a.tmps) then o.wp P a w K Q else K (a.put o.dst undef) w

/-- The edges' order, closed: what the program's own check of a region reckons. -/
def orB (ops : Array Oper) (i : Nat) (o : Oper) : Nat := o.after.foldl (fun s e => if Region.binds .any e then s ||| 2 ^ e.on ||| (Region.before ops).getD e.on 0 else s) 0
def chk (ops : Array Oper) : Bool :=
  (List.range ops.size).all fun i => match ops[i]? with
    | some o => (Region.before ops).getD i 0 == orB ops i o && o.after.all fun e => !Region.binds .any e || decide (e.on < i)
    | none => true
def pred (ops : Array Oper) (j i : Nat) : Bool := ((Region.before ops).getD i 0).testBit j

theorem chk_at {i : Nat} {o : Oper} (hc : chk ops = true) (ho : ops[i]? = some o) :
    (Region.before ops).getD i 0 = orB ops i o ∧ ∀ e ∈ o.after, Region.binds .any e = true → e.on < i := by
  have hi : i < ops.size := (Array.getElem?_eq_some_iff.1 ho).1
  have := List.all_eq_true.1 hc i (List.mem_range.2 hi)
  simp only [ho, Bool.and_eq_true, beq_iff_eq] at this
  refine ⟨this.1, fun e he hb => ?_⟩
  have h2 := Array.all_eq_true'.1 this.2 e he
  simpa [hb] using h2
theorem pred_at {i j : Nat} {o : Oper} (hc : chk ops = true) (ho : ops[i]? = some o) (hp : pred ops j i = true) :
    ∃ e ∈ o.after, Region.binds .any e = true ∧ (e.on = j ∨ pred ops j e.on = true) := by
  unfold pred at hp
  rw [(chk_at hc ho).1] at hp
  unfold orB at hp
  rw [← Array.foldl_toList] at hp
  have key : ∀ (l : List Edge) (s : Nat), (l.foldl (fun s e => if Region.binds .any e then s ||| 2 ^ e.on ||| (Region.before ops).getD e.on 0 else s) s).testBit j = true →
      s.testBit j = true ∨ ∃ e ∈ l, Region.binds .any e = true ∧ (e.on = j ∨ pred ops j e.on = true) := by
    intro l
    induction l with
    | nil => exact fun s h => .inl h
    | cons e l ih =>
      intro s h
      rw [List.foldl_cons] at h
      rcases ih _ h with h | ⟨e', he', h'⟩
      · split at h
        · rename_i hb
          simp only [Nat.testBit_or, Bool.or_eq_true, Nat.testBit_two_pow, decide_eq_true_eq] at h
          rcases h with (h | h) | h
          · exact .inl h
          · exact .inr ⟨e, List.mem_cons_self, hb, .inl h⟩
          · exact .inr ⟨e, List.mem_cons_self, hb, .inr h⟩
        · exact .inl h
      · exact .inr ⟨e', List.mem_cons_of_mem _ he', h'⟩
  rcases key _ _ hp with h | ⟨e, he, h⟩
  · simp at h
  · exact ⟨e, Array.mem_toList_iff.1 he, h⟩

theorem shut_of_edges (hc : chk ops = true) {L : Nat → Bool}
    (hcl : ∀ i o, ops[i]? = some o → L i = true → ∀ e ∈ o.after, Region.binds .any e = true → L e.on = true) : Shut ops.size (pred ops) L := by
  have key : ∀ n i j, j ≤ n → j < ops.size → L j = true → pred ops i j = true → L i = true := by
    intro n
    induction n with
    | zero =>
      intro i j hj hjs hL hp
      obtain ⟨e, he, hb, h⟩ := pred_at hc (Array.getElem?_eq_getElem hjs) hp
      have := (chk_at hc (Array.getElem?_eq_getElem hjs)).2 e he hb
      omega
    | succ n ih =>
      intro i j hj hjs hL hp
      obtain ⟨e, he, hb, h⟩ := pred_at hc (Array.getElem?_eq_getElem hjs) hp
      have hlt := (chk_at hc (Array.getElem?_eq_getElem hjs)).2 e he hb
      have hLe := hcl j _ (Array.getElem?_eq_getElem hjs) hL e he hb
      rcases h with rfl | h
      · exact hLe
      · exact ih i e.on (by omega) (by omega) hLe h
  exact fun i j _ hj hL hp => key j i j (Nat.le_refl _) hj hL hp

theorem all_of_none_ready (hc : chk ops = true) {listed : Array Bool} (hsz : listed.size = ops.size) (hr : Region.ready .any ops listed = []) :
    ∀ i, i < ops.size → listed.getD i false = true := by
  intro i
  induction i using Nat.strongRecOn with
  | _ i ih =>
    intro hi
    cases hl : listed.getD i false with
    | true => rfl
    | false =>
      have : i ∈ Region.ready .any ops listed := by
        unfold Region.ready
        refine List.mem_filter.2 ⟨List.mem_range.2 hi, ?_⟩
        have h1 : listed.getD i true = false := by
          simp only [Array.getD_eq_getD_getElem?, Array.getElem?_eq_getElem (show i < listed.size by omega), Option.getD_some] at hl ⊢
          exact hl
        rw [h1, Array.getElem?_eq_getElem hi]
        simp only [Bool.not_false, Bool.true_and, Option.map_some, Option.getD_some]
        refine Array.all_eq_true'.2 fun e he => ?_
        cases hb : Region.binds .any e with
        | false => rfl
        | true =>
          have hlt := (chk_at hc (Array.getElem?_eq_getElem hi)).2 e he hb
          simpa using ih e.on hlt (by omega)
      rw [hr] at this
      cases this

theorem any_order {Rel : σ → Act → World → Prop} {m : Nat → Mv σ} {s : σ} (hc : chk ops = true)
    (hd : ∀ i o, ops[i]? = some o → Does P ops Rel o (m i)) (ha : Apart m ops.size (pred ops))
    (hok : ∀ i, i < ops.size → (m i).ok (fold m (fun _ => true) i s)) (hQ : ∀ a w, Rel (fold m (fun _ => true) ops.size s) a w → Q .normal a w) :
    ∀ (fuel : Nat) (listed : Array Bool) (a : Act) (w : World), listed.size = ops.size → ((List.range ops.size).filter fun i => !listed.getD i false).length ≤ fuel →
      (∀ i o, ops[i]? = some o → listed.getD i false = true → ∀ e ∈ o.after, Region.binds .any e = true → listed.getD e.on false = true) →
      Rel (fold m (fun i => listed.getD i false) ops.size s) a w → wpAny P .any ops Q fuel listed a w := by
  have fin : ∀ (listed : Array Bool) (a : Act) (w : World), listed.size = ops.size → (∀ i, i < ops.size → listed.getD i false = true) →
      Rel (fold m (fun i => listed.getD i false) ops.size s) a w → Q .normal a w := by
    intro listed a w hsz hall hR
    rw [fold_congr (L' := fun _ => true) ops.size hall] at hR
    exact hQ _ _ hR
  intro fuel
  induction fuel with
  | zero =>
    intro listed a w hsz hlen hcl hR
    have hall : ∀ i, i < ops.size → listed.getD i false = true := by
      intro i hi
      have h0 := List.length_eq_zero_iff.1 (Nat.le_zero.1 hlen)
      have := List.filter_eq_nil_iff.1 h0 i (List.mem_range.2 hi)
      simpa using this
    refine ⟨?_, fin listed a w hsz hall hR⟩
    unfold Region.ready
    refine List.filter_eq_nil_iff.2 fun i hi => ?_
    have := hall i (List.mem_range.1 hi)
    have h1 : listed.getD i true = true := by
      simp only [Array.getD_eq_getD_getElem?, Array.getElem?_eq_getElem (show i < listed.size by have := List.mem_range.1 hi; omega), Option.getD_some] at this ⊢
      exact this
    simp [h1]
  | succ fuel ih =>
    intro listed a w hsz hlen hcl hR
    refine ⟨fun hr => fin listed a w hsz (all_of_none_ready hc hsz hr) hR, fun i hi => ?_⟩
    unfold Region.ready at hi
    obtain ⟨hir, hi⟩ := List.mem_filter.1 hi
    have his := List.mem_range.1 hir
    have ho := Array.getElem?_eq_getElem his
    rw [ho] at hi
    simp only [Bool.and_eq_true, Bool.not_eq_true', Option.map_some, Option.getD_some] at hi
    obtain ⟨hun, hed⟩ := hi
    have hun' : listed.getD i false = false := by
      simp only [Array.getD_eq_getD_getElem?, Array.getElem?_eq_getElem (show i < listed.size by omega), Option.getD_some] at hun ⊢
      exact hun
    have hedge : ∀ e ∈ ops[i].after, Region.binds .any e = true → listed.getD e.on false = true := fun e he hb => by
      have := Array.all_eq_true'.1 hed e he
      simpa [hb] using this
    have hS := shut_of_edges hc (L := fun i => listed.getD i false) hcl
    have hpr : ∀ j, j < ops.size → pred ops j i = true → listed.getD j false = true := by
      intro j hj hp
      obtain ⟨e, he, hb, h⟩ := pred_at hc ho hp
      have hlt := (chk_at hc ho).2 e he hb
      rcases h with rfl | h
      · exact hedge e he hb
      · exact hS j e.on hj (by omega) (hedge e he hb) h
    have hki := fold_ok ha hS his hun' hpr (hok i his)
    have hset : ∀ j, (listed.setIfInBounds i true).getD j false = (j == i || listed.getD j false) := by
      intro j
      simp only [Array.getD_eq_getD_getElem?, Array.getElem?_setIfInBounds]
      by_cases hji : i = j
      · subst hji
        simp [show i < listed.size by omega]
      · have : (j == i) = false := by simp; omega
        simp [hji, this]
    refine wpOp_step ho fun K hK => hd i _ ho Q _ a w K hR hki fun a' w' hR' => hK a' w' ?_
    refine ih (listed.setIfInBounds i true) a' w' (by simpa using hsz) ?_ ?_ ?_
    · have h1 : ((List.range ops.size).filter fun j => !(listed.setIfInBounds i true).getD j false).length < ((List.range ops.size).filter fun j => !listed.getD j false).length := by
        have hsub : (List.range ops.size).filter (fun j => !(listed.setIfInBounds i true).getD j false) = ((List.range ops.size).filter fun j => !listed.getD j false).filter fun j => !(j == i) := by
          rw [List.filter_filter]
          refine List.filter_congr fun j _ => ?_
          rw [hset]
          cases (j == i) <;> cases listed.getD j false <;> rfl
        rw [hsub]
        refine List.length_filter_lt_length_iff_exists.2 ⟨i, List.mem_filter.2 ⟨hir, by rw [hun']; rfl⟩, by simp⟩
      omega
    · intro j o hoj hlj e he hb
      rw [hset] at hlj ⊢
      cases hji : (j == i) with
      | true =>
        have : j = i := by simpa using hji
        subst this
        have : o = ops[j] := by rw [ho] at hoj; injection hoj with h; exact h.symm
        subst this
        rw [hedge e he hb, Bool.or_true]
      | false =>
        rw [hji, Bool.false_or] at hlj
        rw [hcl j o hoj hlj e he hb, Bool.or_true]
    · rw [fold_congr (L' := fun j => j == i || listed.getD j false) ops.size (fun j _ => hset j), fold_add ha hS his hun']
      exact hR'

/-- A region whose order is drawn. 'drew': the draw itself keeps the state. -/
theorem wp_region_drawn {Rel : σ → Act → World → Prop} {m : Nat → Mv σ} {s : σ} {id : Nat} {a : Act} {w : World} (hm : P.follows .mixedOrders = true) (hc : chk ops = true)
    (hd : ∀ i o, ops[i]? = some o → Does P ops Rel o (m i)) (ha : Apart m ops.size (pred ops))
    (hok : ∀ i, i < ops.size → (m i).ok (fold m (fun _ => true) i s)) (hR : Rel s a { w with drawn := w.drawn + 1 })
    (hQ : ∀ a w, Rel (fold m (fun _ => true) ops.size s) a w → Q .normal a w) : (Code.region id ops true).wp P Q a w := by
  refine wp_region_any hm (any_order hc hd ha hok hQ ops.size _ a _ (by simp) ?_ ?_ ?_)
  · exact Nat.le_trans (List.length_filter_le _ _) (by simp)
  · intro i o _ h
    simp [Array.getD_eq_getD_getElem?, Array.getElem?_replicate] at h
    split at h <;> simp at h
  · have : ∀ k, fold m (fun i => (Array.replicate ops.size false).getD i false) k s = s := by
      intro k
      induction k with
      | zero => rfl
      | succ k ih =>
        have : (Array.replicate ops.size false).getD k false = false := by
          simp [Array.getD_eq_getD_getElem?, Array.getElem?_replicate]; split <;> rfl
        simp only [fold, this]; exact ih
    rw [this]
    exact hR
/-- A region in the order of its text. -/
theorem wp_region_text {Rel : σ → Act → World → Prop} {m : Nat → Mv σ} {s : σ} {id : Nat} {a : Act} {w : World}
    (hd : ∀ i o, ops[i]? = some o → Does P ops Rel o (m i)) (hok : ∀ i, i < ops.size → (m i).ok (fold m (fun _ => true) i s)) (hR : Rel s a w)
    (hQ : ∀ a w, Rel (fold m (fun _ => true) ops.size s) a w → Q .normal a w) : (Code.region id ops false).wp P Q a w := by
  refine wp_region ?_
  have key : ∀ d k a w, k + d = ops.size → Rel (fold m (fun _ => true) k s) a w → wpOps P ops Q (List.range' k d) a w := by
    intro d
    induction d with
    | zero => intro k a w hk h; rw [Nat.add_zero] at hk; subst hk; exact hQ _ _ h
    | succ d ih =>
      intro k a w hk h
      have ho := Array.getElem?_eq_getElem (show k < ops.size by omega)
      rw [List.range'_succ, wpOps_cons]
      exact wpOp_step ho fun K hK => hd k _ ho Q _ a w K h (hok k (by omega)) fun a' w' h' => hK a' w' (ih (k + 1) a' w' (by omega) h')
  rw [List.range_eq_range']
  exact key ops.size 0 a w (by omega) hR
end
end Go.Tx
set_option linter.unusedVariables false
set_option linter.unusedSimpArgs false
namespace Go.Tx
open Go.RowKit

inductive Ty where
  | int (k : IntKind) | bool | str | list (t : Ty) | nam (n : Nat)
  deriving DecidableEq
/-- The structs of a place: what they are in Lean. -/
structure Env where
  S : Nat → Type
  d : (n : Nat) → S n
def El (E : Env) : Ty → Type
  | .int _ => Int
  | .bool => Bool
  | .str => ByteArray
  | .list t => List (El E t)
  | .nam n => E.S n
@[reducible] def dflt (E : Env) : (t : Ty) → El E t
  | .int _ => (0 : Int)
  | .bool => false
  | .str => (⟨#[]⟩ : ByteArray)
  | .list _ => []
  | .nam n => E.d n
/-- Whose a row is: made by this activation (or by what it called); kept by others and never written; lent by a caller, who may write it later. -/
inductive Fr where
  | made | kept | lent
/-- One cell's value. 'lo', 'hi': what is known of a number. -/
inductive Lf (E : Env) : Type where
  | int (k : IntKind) (n : Int) (lo hi : Option Int)
  | bool (b : Bool)
  | str (s : ByteArray)
  | row (fr : Fr) (t : Ty) (xs : List (El E t))
structure Lv (E : Env) where
  sz : Nat → Nat
  lv : (n : Nat) → E.S n → List (Lf E)
  un : (n : Nat) → List (Lf E) → E.S n
  flat : Nat → Bool

section
variable {E : Env} (V : Lv E)
def tsz : Ty → Nat
  | .nam n => V.sz n
  | _ => 1
def leaves : (t : Ty) → El E t → List (Lf E)
  | .int k, x => [.int k x none none]
  | .bool, x => [.bool x]
  | .str, x => [.str x]
  | .list t, xs => [.row .made t xs]
  | .nam n, x => V.lv n x
def Fr.isMade : Fr → Bool
  | .made => true
  | _ => false
def Fr.le : Fr → Fr → Bool
  | .made, _ => true
  | .kept, .kept => true
  | _, .lent => true
  | _, _ => false
def flag (fr : Fr) : Lf E → Lf E
  | .row _ t xs => .row fr t xs
  | l => l
/-- What is known of a number is forgotten. -/
def fgt : Lf E → Lf E
  | .int k n _ _ => .int k n none none
  | l => l
def mkEl : (t : Ty) → List (Lf E) → El E t
  | .int _, [.int _ n _ _] => n
  | .bool, [.bool b] => b
  | .str, [.str s] => s
  | .list t, [.row _ t' xs] => if h : t' = t then h ▸ xs else []
  | .nam n, ls => V.un n ls
  | t, _ => dflt E t
end

/-- The value of a temporary. -/
inductive Fv (E : Env) : Type where
  | lf (l : Lf E)
  | agg (ls : List (Lf E))
  | own (r ver : Nat) (m : Option Nat)
  | ptr (b gen off : Nat)
  | eptr (r ver : Nat) (i : Int) (off : Nat)
  | lptr (fr : Fr) (ls : List (Lf E))
  | nil | nilp | any
inductive AV (E : Env) : Type where
  | f (v : Fv E)
  | tup (vs : List (Fv E))
  | fn (f : FuncId) (caps : List (Fv E))
structure Bx (E : Env) where
  gen : Nat
  ty : TypeId
  cells : List (Lf E)
/-- A row of the activation's own: 'ver' counts its values (an append makes a new one). -/
structure Rw (E : Env) where
  live : Bool
  ver : Nat
  e : TypeId
  t : Ty
  xs : List (El E t)
structure St (E : Env) : Type where
  sl : Nat → AV E
  bx : Nat → Option (Bx E)
  rw : Nat → Option (Rw E)
def upd {α : Type} (f : Nat → α) (n : Nat) (v : α) : Nat → α := fun m => cond (Nat.beq m n) v (f m)
theorem upd_eq {α : Type} (f : Nat → α) (n : Nat) (v : α) : upd f n v n = v := by
  have : Nat.beq n n = true := Nat.beq_refl n
  simp [upd, this]
theorem upd_ne {α : Type} (f : Nat → α) {n m : Nat} (v : α) (h : m ≠ n) : upd f n v m = f m := by
  unfold upd
  cases hb : Nat.beq m n with
  | false => rfl
  | true => exact absurd (Nat.eq_of_beq_eq_true hb) h

/-! ## What they stand for -/
def mnK : IntKind → Int
  | .i64 => -9223372036854775808 | .i32 => -2147483648 | .i16 => -32768 | .i8 => -128 | _ => 0
def mxK : IntKind → Int
  | .i64 => 9223372036854775807 | .i32 => 2147483647 | .i16 => 32767 | .i8 => 127
  | .u64 => 18446744073709551615 | .u32 => 4294967295 | .u16 => 65535 | .u8 => 255
def lim (k : IntKind) (n : Int) : Prop := mnK k ≤ n ∧ n ≤ mxK k
def inB (lo hi : Option Int) (n : Int) : Prop := (∀ a, lo = some a → a ≤ n) ∧ (∀ b, hi = some b → n ≤ b)
section
variable {E : Env} (V : Lv E)
/-- A cell's value 'v' stands for the leaf; the blocks that it leads to are of 'F'. -/
inductive RepP (w : World) (F : Fr → Nat → Prop) : Lf E → Value → Prop where
  | int {k n lo hi} (h : lim k n) (hb : inB lo hi n) : RepP w F (.int k n lo hi) (.int k n)
  | bool {b} : RepP w F (.bool b) (.bool b)
  | str {s} (h : s.size ≤ maxLen) : RepP w F (.str s) (.string s)
  | nil {fr t A c} : RepP w F (.row fr t []) (.slice A 0 c)
  | row {fr t xs b o c} (u : Nat → Nat → Value) (hl : xs.length ≤ c) (hm : xs.length ≤ maxLen) (hF : F fr b)
      (hc : ∀ j x i l, xs[j]? = some x → (leaves V t x)[i]? = some l → w.cell? ⟨b, o + (j * tsz V t + i), none⟩ = some (u j i))
      (hr : ∀ j x i l, xs[j]? = some x → (leaves V t x)[i]? = some l → RepP w F (flag fr l) (u j i)) : RepP w F (.row fr t xs) (.slice (some ⟨b, o, none⟩) xs.length c)
end
end Go.Tx
set_option linter.unusedVariables false
set_option linter.unusedSimpArgs false
namespace Go.Tx
open Go.RowKit

inductive TK where
  | basic | struct (fs : List (Nat × TypeId)) | array (len : Nat) (e : TypeId) | slice (e : TypeId)
/-- A basic type. -/
inductive BK where
  | int (k : IntKind) | bool | str | oth
structure TI (E : Env) where
  k : TK
  size : Nat
  agg : Bool
  el : Ty
  zero : List (Lf E)
  bytes : Nat
  kd : BK

/-- What has to be shown on the way. -/
@[irreducible] def Ob (p q : Prop) : Prop := p ∧ q
def cM (b : Bool) (q : Prop) : Prop := match b with | true => q | false => False
@[irreducible] def Ck (b : Bool) (q : Prop) : Prop := b = true ∧ q
@[irreducible] def brE (b : Bool) (A B : Prop) : Prop := (b = true → A) ∧ (b = false → B)

/-! ## Numbers -/
def fits (k : IntKind) : Option Int → Option Int → Bool
  | some a, some b => decide (mnK k ≤ a) && decide (b ≤ mxK k)
  | _, _ => false
@[reducible] def wr (k : IntKind) (n : Int) : Int :=
  match k with
  | .i64 => wrap64 n
  | .i32 => wrap32 n
  | .u8 => n % 256
  | .u32 => n % 4294967296
  | k => k.wrap n
section
variable {E : Env}
def wrL (k : IntKind) (n : Int) (lo hi : Option Int) : Lf E :=
  match fits k lo hi with
  | true => .int k n lo hi
  | false => match k with
    | .u8 => .int .u8 (n % 256) (some 0) (some 255)
    | .u32 => .int .u32 (n % 4294967296) (some 0) (some 4294967295)
    | k => .int k (wr k n) none none
end
def mnI (a b : Int) : Int := cond (decide (a ≤ b)) a b
def mxI (a b : Int) : Int := cond (decide (a ≤ b)) b a
def mn4 (a b c d : Int) : Int := mnI (mnI a b) (mnI c d)
def mx4 (a b c d : Int) : Int := mxI (mxI a b) (mxI c d)
/-- Bounds of a sum, a difference, a product out of both sides' bounds. -/
def ivl (f : Int → Int → Int) : Option Int → Option Int → Option Int → Option Int → Option Int × Option Int
  | some a, some b, some c, some d => (some (mn4 (f a c) (f a d) (f b c) (f b d)), some (mx4 (f a c) (f a d) (f b c) (f b d)))
  | _, _, _, _ => (none, none)
def single : Option Int → Option Int → Bool
  | some a, some b => decide (a = b)
  | _, _ => false
/-- The one number that it can be, if that is known. -/
def sval : Option Int → Option Int → Option Nat
  | some a, some b => match decide (a = b) && decide (0 ≤ a) with | true => some a.toNat | false => none
  | _, _ => none
def isZ : Option Int → Option Int → Bool
  | some a, some b => decide (a = 0) && decide (b = 0)
  | _, _ => false
def geO (a : Int) : Option Int → Bool
  | some b => decide (a ≤ b)
  | none => false
def leO (a : Int) : Option Int → Bool
  | some b => decide (b ≤ a)
  | none => false
def mxE (a b : Int) : Int := if a < b then b else a
def mnE (a b : Int) : Int := if b < a then b else a
def shlE (k : IntKind) (x y : Int) : Int := k.wrap (x * 2 ^ min y.toNat k.bits)
def shrE (k : IntKind) (x y : Int) : Int := x / 2 ^ min y.toNat k.bits

section
variable {E : Env}
def arith (op : BinOp) (k : IntKind) (x : Int) (xl xh : Option Int) (y : Int) (yl yh : Option Int) (K : Lf E → Prop) : Prop :=
  match op with
  | .add => match ivl (· + ·) xl xh yl yh with | (lo, hi) => K (wrL k (x + y) lo hi)
  | .sub => match ivl (· - ·) xl xh yl yh with
    | (lo, hi) => match isZ xl xh with
      | true => K (wrL k (-y) lo hi)
      | false => K (wrL k (x - y) lo hi)
  | .mul => match single xl xh || single yl yh with
    | true => match ivl (· * ·) xl xh yl yh with | (lo, hi) => K (wrL k (x * y) lo hi)
    | false => K (wrL k (x * y) none none)
  | .quo => Ob (y ≠ 0) (match geO 0 xl with
    | true => match geO 1 yl && leO (mxK k) xh with
      | true => K (.int k (x / y) (some 0) xh)
      | false => K (wrL k (x / y) none none)
    | false => K (wrL k (Int.tdiv x y) none none))
  | .rem => Ob (y ≠ 0) (match geO 0 xl with
    | true => match geO 1 yl && single yl yh with
      | true => K (.int k (x % y) (some 0) (yh.map (· - 1)))
      | false => K (.int k (x % y) (some 0) none)
    | false => K (.int k (Int.tmod x y) none none))
  | .and => K (.int k (bits .and k x y) none none)
  | .or => K (.int k (bits .or k x y) none none)
  | .xor => K (.int k (bits .xor k x y) none none)
  | .andNot => K (.int k (bits .andNot k x y) none none)
  | .eql => K (.bool (x == y))
  | .neq => K (.bool (x != y))
  | .lss => K (.bool (decide (x < y)))
  | .leq => K (.bool (decide (x ≤ y)))
  | .gtr => K (.bool (decide (x > y)))
  | .geq => K (.bool (decide (x ≥ y)))
  | _ => False
/-- A shift; 'lit': the count is written in the text. -/
def shiftE (op : BinOp) (k : IntKind) (x : Int) (xl xh : Option Int) (y : Int) (yl : Option Int) (lit : Option Nat) (K : Lf E → Prop) : Prop :=
  match op, lit with
  | .shl, some 0 => K (.int k x xl xh)
  | .shr, some 0 => K (.int k x xl xh)
  | .shl, some c => cM (Nat.ble c k.bits) (K (wrL k (x * ((2 ^ c : Nat) : Int)) (xl.map (· * (2 ^ c : Nat))) (xh.map (· * (2 ^ c : Nat)))))
  | .shr, some c => cM (Nat.ble c k.bits) (K (.int k (x / ((2 ^ c : Nat) : Int)) (xl.map (· / (2 ^ c : Nat))) (xh.map (· / (2 ^ c : Nat)))))
  | .shl, none => Ob (0 ≤ y) (K (.int k (shlE k x y) none none))
  | .shr, none => Ob (0 ≤ y) (K (.int k (shrE k x y) (match geO 0 xl with | true => some 0 | false => none) (match geO 0 xl with | true => xh | false => none)))
  | _, _ => False
end

/-! ## Operands -/
section
variable {E : Env} (V : Lv E) (Γ : Nat → Option (TI E))
/-- What is known of a type. -/
def tyE (t : TypeId) (K : TI E → Prop) : Prop := match Γ t with | some ti => K ti | none => False
def cv : Value → AV E
  | .int k n => match decide (mnK k ≤ n) && decide (n ≤ mxK k) with
    | true => .f (.lf (.int k n (some n) (some n)))
    | false => .f .any
  | .bool b => .f (.lf (.bool b))
  | .string s => match Nat.ble s.size 9223372036854775807 with
    | true => .f (.lf (.str s))
    | false => .f .any
  | .slice none 0 0 => .f .nil
  | .pointer none => .f .nilp
  | _ => .f .any
def ev (s : St E) : Operand → AV E
  | .tmp n => s.sl n
  | .const v => cv v
  | .func f => .fn f []
  | .global _ => .f .any
/-- What an operation does: what it reads of memory, its value, what it writes. -/
structure Ef (E : Env) : Type where
  rb : List Nat
  rr : List Nat
  v : AV E
  wb : List (Nat × Bx E)
  wr : List (Nat × Rw E)
def pu (v : AV E) : Ef E := ⟨[], [], v, [], []⟩
/-- The contents of what is a row; 'tt': a nil's type. -/
def rowOf (s : St E) (tt : Ty) (x : AV E) (K : (t : Ty) → List (El E t) → Fr → List Nat → Prop) : Prop :=
  match x with
  | .f (.lf (.row fr t xs)) => K t xs fr []
  | .f (.own r ver m) => match s.rw r with
    | some ⟨true, ver', _, t, xs⟩ => match Nat.beq ver ver' with
      | true => match m with
        | none => K t xs .made [r]
        | some n => K t (xs.take n) .made [r]
      | false => False
    | _ => False
  | .f .nil => K tt [] .made []
  | _ => False
/-- The cells of what is stored; a row of our own is sealed by it. 'z': the cells of a nil. -/
def cellsOf (s : St E) (z : List (Lf E)) (x : AV E) (K : List (Lf E) → List Nat → List (Nat × Rw E) → Prop) : Prop :=
  match x with
  | .f (.lf l) => K [l] [] []
  | .f (.agg ls) => K ls [] []
  | .f .nil => match z with
    | [.row _ t _] => K [.row .made t []] [] []
    | _ => False
  | .f (.own r ver none) => match s.rw r with
    | some ⟨true, ver', e, t, xs⟩ => match Nat.beq ver ver' with
      | true => K [.row .made t xs] [r] [(r, ⟨false, ver' + 1, e, t, xs⟩)]
      | false => False
    | _ => False
  | _ => False
/-- A value of type 't' out of cells. -/
def valOf (t : TypeId) (ls : List (Lf E)) (K : AV E → Prop) : Prop :=
  tyE Γ t fun ti => match ti.agg with
  | true => match Nat.ble ti.size ls.length with
    | true => K (.f (.agg (ls.take ti.size)))
    | false => False
  | false => match ls with
    | l :: _ => K (.f (.lf l))
    | [] => False
def loadE (s : St E) (t : TypeId) (p : AV E) (K : Ef E → Prop) : Prop :=
  match p with
  | .f (.ptr b g off) => match s.bx b with
    | some ⟨g', _, cells⟩ => match Nat.beq g g' with
      | true => valOf Γ t (cells.drop off) fun v => K ⟨[b], [], v, [], []⟩
      | false => False
    | none => False
  | .f (.lptr _ ls) => valOf Γ t ls fun v => K (pu v)
  | .f (.eptr r ver i off) => match s.rw r with
    | some ⟨true, ver', _, t', xs⟩ => match Nat.beq ver ver' with
      | true => valOf Γ t ((leaves V t' (xs.getD i.toNat (dflt E t'))).drop off) fun v => K ⟨[], [r], v, [], []⟩
      | false => False
    | _ => False
  | _ => False
def putAt (cells : List (Lf E)) (off : Nat) (ls : List (Lf E)) : List (Lf E) := cells.take off ++ ls ++ cells.drop (off + ls.length)
def allTrue : List (Lf E) → Bool
  | [] => true
  | .row fr _ _ :: r => fr.isMade && allTrue r
  | _ :: r => allTrue r
def storeE (s : St E) (t : TypeId) (p x : AV E) (K : Ef E → Prop) : Prop :=
  tyE Γ t fun ti => cellsOf s ti.zero x fun ls rr wr => cM (Nat.beq ls.length ti.size) (match p with
  | .f (.ptr b g off) => match s.bx b with
    | some ⟨g', ty, cells⟩ => match Nat.beq g g', Nat.ble (off + ls.length) cells.length with
      | true, true => K ⟨[b], rr, .f .any, [(b, ⟨g', ty, putAt cells off ls⟩)], wr⟩
      | _, _ => False
    | none => False
  | .f (.eptr r ver i off) => match s.rw r, wr with
    | some ⟨true, ver', e, t', xs⟩, [] => match Nat.beq ver ver', allTrue ls with
      | true, true =>
        Ob (leaves V t' (mkEl V t' (putAt (leaves V t' (xs.getD i.toNat (dflt E t'))) off ls)) = (putAt (leaves V t' (xs.getD i.toNat (dflt E t'))) off ls).map fgt)
        (K ⟨[], r :: rr, .f .any, [], [(r, ⟨true, ver', e, t', xs.set i.toNat (mkEl V t' (putAt (leaves V t' (xs.getD i.toNat (dflt E t'))) off ls))⟩)]⟩)
      | _, _ => False
    | _, _ => False
  | _ => False)
def gen (s : St E) (b : Nat) : Nat := match s.bx b with | some b => b.gen + 1 | none => 0
def ver (s : St E) (r : Nat) : Nat := match s.rw r with | some r => r.ver + 1 | none => 0
/-- The elements of a row's literal, in order. -/
def elemsOf (s : St E) (ty : Ty) : Nat → List (Nat × Operand) → (List (El E ty) → Prop) → Prop
  | _, [], K => K []
  | n, (i, x) :: r, K => match Nat.beq i n with
    | true => match ev s x with
      | .f (.lf l) => match allTrue [l] with
        | true => Ob (leaves V ty (mkEl V ty [l]) = [fgt l]) (elemsOf s ty (n + 1) r fun xs => K (mkEl V ty [l] :: xs))
        | false => False
      | .f (.agg ls) => match allTrue ls with
        | true => Ob (leaves V ty (mkEl V ty ls) = ls.map fgt) (elemsOf s ty (n + 1) r fun xs => K (mkEl V ty ls :: xs))
        | false => False
      | _ => False
    | false => False
/-- Where a part of a type lies. -/
def placeE (k : TK) (i : Nat) (K : Nat → TypeId → Prop) : Prop :=
  match k with
  | .struct fs => match fs[i]? with
    | some (o, u) => K o u
    | none => False
  | .array n e => tyE Γ e fun te => cM (Nat.blt i n) (K (i * te.size) e)
  | _ => False
/-- Fields and elements put into what is built. -/
def fillE (s : St E) (k : TK) : List (Lf E) → List (Nat × Operand) → (List (Lf E) → List Nat → List (Nat × Rw E) → Prop) → Prop
  | cells, [], K => K cells [] []
  | cells, (i, x) :: r, K => placeE Γ k i fun off t => tyE Γ t fun ti => cellsOf s ti.zero (ev s x) fun ls rr wr =>
      match Nat.beq ls.length ti.size, Nat.ble (off + ls.length) cells.length with
      | true, true => fillE s k (putAt cells off ls) r fun cs rr' wr' => K cs (rr ++ rr') (wr' ++ wr)
      | _, _ => False
@[irreducible] def ixE2 (i : Int) (A B : Prop) : Prop := (i = 0 → A) ∧ (i = 1 → B) ∧ 0 ≤ i ∧ i < 2
@[irreducible] def ixE3 (i : Int) (A B C : Prop) : Prop := (i = 0 → A) ∧ (i = 1 → B) ∧ (i = 2 → C) ∧ 0 ≤ i ∧ i < 3
@[irreducible] def ixE4 (i : Int) (A B C D : Prop) : Prop := (i = 0 → A) ∧ (i = 1 → B) ∧ (i = 2 → C) ∧ (i = 3 → D) ∧ 0 ≤ i ∧ i < 4
/-- An index into an array: a number, or each of its values. -/
def arrIx (n : Nat) (i : Int) (lo hi : Option Int) (K : Nat → Prop) : Prop :=
  match sval lo hi with
  | some a => Ob (i = (a : Int)) (cM (Nat.blt a n) (K a))
  | none => match n with
    | 2 => ixE2 i (K 0) (K 1)
    | 3 => ixE3 i (K 0) (K 1) (K 2)
    | 4 => ixE4 i (K 0) (K 1) (K 2) (K 3)
    | _ => False
/-- The address 'o' cells on. -/
def shift (s : St E) (o : Nat) (x : AV E) (K : Ef E → Prop) : Prop :=
  match x with
  | .f (.ptr b g off) => match s.bx b with
    | some ⟨g', _, _⟩ => match Nat.beq g g' with
      | true => K ⟨[b], [], .f (.ptr b g (off + o)), [], []⟩
      | false => False
    | none => False
  | .f (.eptr r v i off) => match s.rw r with
    | some ⟨true, v', _, _, _⟩ => match Nat.beq v v' with
      | true => K ⟨[], [r], .f (.eptr r v i (off + o)), [], []⟩
      | false => False
    | _ => False
  | .f (.lptr fr ls) => K (pu (.f (.lptr fr (ls.drop o))))
  | _ => False
def idxAddrE (s : St E) (t : TypeId) (x i : AV E) (K : Ef E → Prop) : Prop :=
  match i with
  | .f (.lf (.int k i lo hi)) => tyE Γ t fun ti => match ti.k with
    | .array n e => tyE Γ e fun te => arrIx n i lo hi fun j => shift s (j * te.size) x K
    | .slice e => tyE Γ e fun te => match x with
      | .f (.own r ver none) => match s.rw r with
        | some ⟨true, ver', _, t', xs⟩ => match Nat.beq ver ver', decide (te.el = t') with
          | true, true => Ob (0 ≤ i ∧ i < xs.length) (K ⟨[], [r], .f (.eptr r ver i 0), [], []⟩)
          | _, _ => False
        | _ => False
      | .f (.lf (.row fr t' xs)) => match decide (te.el = t') with
        | true => Ob (0 ≤ i ∧ i < xs.length) (K (pu (.f (.lptr fr ((leaves V t' (xs.getD i.toNat (dflt E t'))).map (flag fr))))))
        | false => False
      | _ => False
    | _ => False
  | _ => False
/-- '==' of two values of one type, as it is told in the text: a struct's fields, an array's elements. -/
def arrFs (e : TypeId) (sz : Nat) : Nat → Nat → List (Nat × TypeId)
  | 0, _ => []
  | n + 1, o => (o, e) :: arrFs e sz n (o + sz)
def eqFs (g : TypeId → List (Lf E) → List (Lf E) → Option Bool) (xs ys : List (Lf E)) : List (Nat × TypeId) → Option Bool
  | [] => some true
  | [(o, u)] => g u (xs.drop o) (ys.drop o)
  | (o, u) :: r => match g u (xs.drop o) (ys.drop o), eqFs g xs ys r with
    | some b, some c => some (b && c)
    | _, _ => none
def neFs (g : TypeId → List (Lf E) → List (Lf E) → Option Bool) (xs ys : List (Lf E)) : List (Nat × TypeId) → Option Bool
  | [] => some false
  | [(o, u)] => g u (xs.drop o) (ys.drop o)
  | (o, u) :: r => match g u (xs.drop o) (ys.drop o), neFs g xs ys r with
    | some b, some c => some (b || c)
    | _, _ => none
def eqT : Nat → TypeId → List (Lf E) → List (Lf E) → Option Bool
  | 0, _, _, _ => none
  | d + 1, t, xs, ys => match Γ t with
    | some ti => match ti.k with
      | .struct fs => eqFs (eqT d) xs ys fs
      | .array n e => match Γ e with
        | some te => eqFs (eqT d) xs ys (arrFs e te.size n 0)
        | none => none
      | .basic => match xs, ys, ti.kd with
        | .int k1 a _ _ :: _, .int k2 b _ _ :: _, .int _ => match decide (k1 = k2) with | true => some (a == b) | false => none
        | .bool a :: _, .bool b :: _, .bool => some (a == b)
        | .str a :: _, .str b :: _, .str => some (a.toList == b.toList)
        | _, _, _ => none
      | _ => none
    | none => none
def neT : Nat → TypeId → List (Lf E) → List (Lf E) → Option Bool
  | 0, _, _, _ => none
  | d + 1, t, xs, ys => match Γ t with
    | some ti => match ti.k with
      | .struct fs => neFs (neT d) xs ys fs
      | .array n e => match Γ e with
        | some te => neFs (neT d) xs ys (arrFs e te.size n 0)
        | none => none
      | .basic => match xs, ys, ti.kd with
        | .int k1 a _ _ :: _, .int k2 b _ _ :: _, .int _ => match decide (k1 = k2) with | true => some (!(a == b)) | false => none
        | .bool a :: _, .bool b :: _, .bool => some (!(a == b))
        | .str a :: _, .str b :: _, .str => some (!(a.toList == b.toList))
        | _, _, _ => none
      | _ => none
    | none => none
def binE (op : BinOp) (t : TypeId) (x y : AV E) (lit : Option Nat) (K : AV E → Prop) : Prop :=
  match x, y with
  | .f (.lf (.int k a al ah)), .f (.lf (.int k' b bl bh)) => match op with
    | .shl => shiftE .shl k a al ah b bl lit fun l => K (.f (.lf l))
    | .shr => shiftE .shr k a al ah b bl lit fun l => K (.f (.lf l))
    | op => match decide (k = k') with
      | true => arith op k a al ah b bl bh fun l => K (.f (.lf l))
      | false => False
  | .f (.lf (.bool a)), .f (.lf (.bool b)) => match op with
    | .eql => tyE Γ t fun ti => match ti.kd with
      | .bool => K (.f (.lf (.bool (a == b))))
      | _ => False
    | .neq => tyE Γ t fun ti => match ti.kd with
      | .bool => K (.f (.lf (.bool (a != b))))
      | _ => False
    | _ => False
  | .f (.lf (.str a)), .f (.lf (.str b)) => match op with
    | .add => Ob (a.size + b.size ≤ 9223372036854775807) (K (.f (.lf (.str (a ++ b)))))
    | .eql => K (.f (.lf (.bool (a.toList == b.toList))))
    | .neq => K (.f (.lf (.bool (a.toList != b.toList))))
    | _ => False
  | .f (.agg xs), .f (.agg ys) => match op with
    | .eql => tyE Γ t fun ti => match ti.agg, eqT Γ 6 t xs ys with
      | true, some b => K (.f (.lf (.bool b)))
      | _, _ => False
    | .neq => tyE Γ t fun ti => match ti.agg, neT Γ 6 t xs ys with
      | true, some b => K (.f (.lf (.bool b)))
      | _, _ => False
    | _ => False
  | _, _ => False
def unE (op : UnOp) (x : AV E) (K : AV E → Prop) : Prop :=
  match op, x with
  | .not, .f (.lf (.bool b)) => K (.f (.lf (.bool (!b))))
  | .neg, .f (.lf (.int k n lo hi)) => K (.f (.lf (wrL k (-n) (hi.map (- ·)) (lo.map (- ·)))))
  | .xor, .f (.lf (.int k n _ _)) => match k with
    | .i64 => K (.f (.lf (.int .i64 (bits .xor .i64 (-1) n) none none)))
    | _ => False
  | _, _ => False
def bt (s : ByteArray) (i : Int) : Int := if h : i.toNat < s.size then ((s[i.toNat]'h).toNat : Int) else 0
/-- A conversion. -/
def convE (s : St E) (src dst : TypeId) (x : AV E) (K : Ef E → Prop) : Prop :=
  tyE Γ dst fun ti => tyE Γ src fun si => match ti.kd with
  | .int k' => match x with
    | .f (.lf (.int k n lo hi)) => match decide (k = k') with
      | true => K (pu (.f (.lf (.int k n lo hi))))
      | false => K (pu (.f (.lf (wrL k' n lo hi))))
    | _ => False
  | .str => match si.k with
    | .slice e => tyE Γ e fun te => match te.kd with
      | .int .u8 => rowOf s (.int .u8) x fun t xs _ rr => match t, xs with
        | .int .u8, xs => K ⟨[], rr, .f (.lf (.str (strOfNums xs))), [], []⟩
        | _, _ => False
      | _ => False
    | .basic => match x with
      | .f (.lf (.str b)) => K (pu (.f (.lf (.str b))))
      | _ => False
    | _ => False
  | _ => False
def indexE (t : TypeId) (x i : AV E) (K : AV E → Prop) : Prop :=
  match x, i with
  | .f (.lf (.str b)), .f (.lf (.int _ i _ _)) => tyE Γ t fun ti => match ti.kd with
    | .str => Ob (0 ≤ i ∧ i < b.size) (K (.f (.lf (.int .u8 (bt b i) none none))))
    | _ => False
  | .f (.agg ls), .f (.lf (.int _ i lo hi)) => tyE Γ t fun ti => match ti.k with
    | .array n e => tyE Γ e fun te => arrIx n i lo hi fun j => valOf Γ e (ls.drop (j * te.size)) K
    | _ => False
  | _, _ => False
def fieldE (t : TypeId) (x : AV E) (f : Nat) (K : AV E → Prop) : Prop :=
  tyE Γ t fun ti => match x, ti.k with
  | .f (.agg ls), .struct fs => match fs[f]? with
    | some (o, u) => valOf Γ u (ls.drop o) K
    | none => False
  | _, _ => False
def fieldAddrE (s : St E) (t : TypeId) (x : AV E) (f : Nat) (K : Ef E → Prop) : Prop :=
  tyE Γ t fun ti => match ti.k with
  | .struct fs => match fs[f]? with
    | some (o, _) => shift s o x K
    | none => False
  | _ => False
def lenS (x : AV E) (K : Ef E → Prop) : Prop :=
  match x with
  | .f (.lf (.str b)) => K (pu (.f (.lf (.int .i64 (b.size : Int) (some 0) none))))
  | _ => False
def lenE (s : St E) (t : TypeId) (x : AV E) (K : Ef E → Prop) : Prop :=
  tyE Γ t fun ti => match ti.kd with
  | .str => lenS x K
  | _ => match ti.k with
    | .slice _ => rowOf s .bool x fun _ xs _ rr => K ⟨[], rr, .f (.lf (.int .i64 (xs.length : Int) (some 0) none)), [], []⟩
    | _ => False
def bnd (f : Int → Int → Int) (one : Bool) : Option Int → Option Int → Option Int
  | some a, some b => some (f a b)
  | some a, none => match one with | true => some a | false => none
  | none, some b => match one with | true => some b | false => none
  | none, none => none
def maxE (x y : AV E) (K : AV E → Prop) : Prop :=
  match x, y with
  | .f (.lf (.int k a al ah)), .f (.lf (.int k' b bl bh)) => match decide (k = k') with
    | true => K (.f (.lf (.int k (mxE a b) (bnd mxI true al bl) (bnd mxI false ah bh))))
    | false => False
  | _, _ => False
def minE (x y : AV E) (K : AV E → Prop) : Prop :=
  match x, y with
  | .f (.lf (.int k a al ah)), .f (.lf (.int k' b bl bh)) => match decide (k = k') with
    | true => K (.f (.lf (.int k (mnE a b) (bnd mnI false al bl) (bnd mnI true ah bh))))
    | false => False
  | _, _ => False
def foldE (g : AV E → AV E → (AV E → Prop) → Prop) : AV E → List (AV E) → (AV E → Prop) → Prop
  | x, [], K => K x
  | x, y :: r, K => g x y fun z => foldE g z r K
/-- A part of a string or a row. -/
def numOf : Option (AV E) → Option (Option Int)
  | none => some none
  | some (.f (.lf (.int _ l _ _))) => some (some l)
  | _ => none
def sliceE (s : St E) (t : TypeId) (x : AV E) (lo hi : Option (AV E)) (K : Ef E → Prop) : Prop :=
  tyE Γ t fun ti => match x with
  | .f (.lf (.str b)) => match ti.kd, numOf lo, numOf hi with
    | .str, some (some l), some (some h) => Ob (0 ≤ l ∧ l ≤ h ∧ h ≤ b.size) (K (pu (.f (.lf (.str (b.extract l.toNat h.toNat))))))
    | .str, some (some l), some none => Ob (0 ≤ l ∧ l ≤ b.size) (K (pu (.f (.lf (.str (b.extract l.toNat b.size))))))
    | .str, some none, some (some h) => Ob (0 ≤ h ∧ h ≤ b.size) (K (pu (.f (.lf (.str (b.extract 0 h.toNat))))))
    | _, _, _ => False
  | .f (.lf (.row fr t' xs)) => match ti.k with
    | .slice e => tyE Γ e fun te => match decide (te.el = t'), numOf lo, numOf hi with
      | true, some none, some (some h) => Ob (0 ≤ h ∧ h ≤ xs.length) (K (pu (.f (.lf (.row fr t' (xs.take h.toNat))))))
      | true, some (some l), some none => Ob (0 ≤ l ∧ l ≤ xs.length) (K (pu (.f (.lf (.row fr t' (xs.drop l.toNat))))))
      | _, _, _ => False
    | _ => False
  | .f (.own r ver none) => match ti.k with
    | .slice e => tyE Γ e fun te => match s.rw r with
      | some ⟨true, ver', _, _, xs⟩ => match Nat.beq ver ver', numOf lo, numOf hi with
        | true, some none, some (some h) => Ob (0 ≤ h ∧ h ≤ xs.length) (K ⟨[], [r], .f (.own r ver (some h.toNat)), [], []⟩)
        | _, _, _ => False
      | _ => False
    | _ => False
  | _ => False
def castR {t t' : Ty} (h : t' = t) (xs : List (El E t')) : List (El E t) := h ▸ xs
/-- Two rows of one type, put together; a row that may lead to an argument's rows only where its elements lead nowhere. -/
def flatTy : Ty → Bool
  | .list _ => false
  | .nam n => V.flat n
  | _ => true
def appendE (s : St E) (dst : Nat) (t : TypeId) (x y : AV E) (K : Ef E → Prop) : Prop :=
  tyE Γ t fun ti => match ti.k with
  | .slice e => tyE Γ e fun te => rowOf s te.el y fun ty ys fr rr => match fr.isMade || flatTy V ty with
    | false => False
    | true => match x with
      | .f .nil => match decide (te.el = ty) with
        | true => Ob (ys.length * te.bytes ≤ 140737488355328) (K ⟨[], dst :: rr, .f (.own dst (ver s dst) none), [], [(dst, ⟨true, ver s dst, e, ty, ys⟩)]⟩)
        | false => False
      | .f (.own r v m) => match s.rw r with
        | some ⟨true, v', e', ty', xs⟩ => match Nat.beq v v', Nat.beq e e' with
          | true, true => match decEq ty ty', decide (te.el = ty) with
            | isTrue h, true => match m with
              | none => Ob ((xs.length + ys.length) * te.bytes ≤ 140737488355328) (K ⟨[], r :: rr, .f (.own r (v' + 1) none), [], [(r, ⟨true, v' + 1, e, ty', xs ++ castR h ys⟩)]⟩)
              | some n => Ob ((n + ys.length) * te.bytes ≤ 140737488355328) (K ⟨[], r :: rr, .f (.own r (v' + 1) none), [], [(r, ⟨true, v' + 1, e, ty', xs.take n ++ castR h ys⟩)]⟩)
            | _, _ => False
          | _, _ => False
        | _ => False
      | _ => False
  | _ => False
def buildSliceE (s : St E) (dst : Nat) (t : TypeId) (len : Nat) (parts : List (Nat × Operand)) (K : Ef E → Prop) : Prop :=
  tyE Γ t fun ti => match ti.k with
  | .slice e => tyE Γ e fun te => match Nat.beq parts.length len && Nat.ble (len * te.size) 16777216 with
    | true => elemsOf V s te.el 0 parts fun xs => K ⟨[], [dst], .f (.own dst (ver s dst) none), [], [(dst, ⟨true, ver s dst, e, te.el, xs⟩)]⟩
    | false => False
  | _ => False

/-! ## Calls -/
/-- What is handed to a function, and what it hands back. -/
inductive PA (E : Env) : Type where
  | lf (l : Lf E)
  | agg (ls : List (Lf E))
  | ref (ty : TypeId) (ls : List (Lf E))
  | fn (f : FuncId) (caps : List (List (Lf E)))
inductive RV (E : Env) : Type where
  | lf (l : Lf E)
  | agg (ls : List (Lf E))
  | own (e : TypeId) (t : Ty) (xs : List (El E t))
  | ref (ty : TypeId) (ls : List (Lf E))
/-- What is read, whosever it is. -/
def strip : Lf E → Lf E
  | .int k n _ _ => .int k n none none
  | .row _ t xs => .row .lent t xs
  | l => l
def stripP : PA E → PA E
  | .lf l => .lf (strip l)
  | .agg ls => .agg (ls.map strip)
  | .ref ty ls => .ref ty (ls.map strip)
  | .fn f cs => .fn f (cs.map (·.map strip))
def leL : List (Lf E) → List (Lf E) → Bool
  | [], [] => true
  | .row a _ _ :: r, .row b _ _ :: r' => a.le b && leL r r'
  | .int _ _ _ _ :: r, .int _ _ none none :: r' => leL r r'
  | .bool _ :: r, .bool _ :: r' => leL r r'
  | .str _ :: r, .str _ :: r' => leL r r'
  | _, _ => false
/-- Nobody is trusted with more than he has. -/
def leP : List (PA E) → List (PA E) → Bool
  | .lf l :: r, .lf l' :: r' => leL [l] [l'] && leP r r'
  | .agg ls :: r, .agg ls' :: r' => leL ls ls' && leP r r'
  | .ref _ ls :: r, .ref _ ls' :: r' => leL ls ls' && leP r r'
  | .fn _ _ :: _, _ => false
  | [], [] => true
  | _, _ => false
def paOf (s : St E) (tt : TypeId) (x : AV E) (K : PA E → List Nat → List Nat → Prop) : Prop :=
  match x with
  | .f (.lf l) => K (.lf l) [] []
  | .f (.agg ls) => K (.agg ls) [] []
  | .f .nil => tyE Γ tt fun ti => match ti.k with
    | .slice e => tyE Γ e fun te => K (.lf (.row .made te.el [])) [] []
    | _ => False
  | .f (.ptr b g 0) => match s.bx b with
    | some ⟨g', ty, cells⟩ => match Nat.beq g g' with
      | true => K (.ref ty cells) [b] []
      | false => False
    | none => False
  | .f (.own r ver m) => rowOf s .bool (.f (.own r ver m)) fun t xs _ rr => K (.lf (.row .lent t xs)) [] rr
  | _ => False
def pasOf (s : St E) : List (AV E) → List TypeId → (List (PA E) → List Nat → List Nat → Prop) → Prop
  | [], _, K => K [] [] []
  | x :: r, t :: ts, K => paOf Γ s t x fun p rb rr => pasOf s r ts fun ps rb' rr' => K (p :: ps) (rb ++ rb') (rr ++ rr')
  | _ :: _, [], _ => False
/-- The state behind a call: what the boxes that were handed on hold now. -/
def refsNow (s : St E) : List Nat → List (List (Lf E)) → (List (Nat × Bx E) → Prop) → Prop
  | [], [], K => K []
  | b :: bs, c :: cs, K => match s.bx b with
    | some ⟨g, ty, cells⟩ => refsNow s bs cs fun r => K ((b, ⟨g, ty, c⟩) :: r)
    | none => False
  | _, _, _ => False
def noLent : List (Lf E) → Bool
  | [] => true
  | .row .lent _ _ :: _ => false
  | _ :: r => noLent r
def noLentR : List (RV E) → Bool
  | [] => true
  | .lf l :: r => noLent [l] && noLentR r
  | .agg ls :: r => noLent ls && noLentR r
  | .ref _ ls :: r => noLent ls && noLentR r
  | .own _ _ _ :: r => noLentR r
def noLentC : List (List (Lf E)) → Bool
  | [] => true
  | ls :: r => noLent ls && noLentC r
/-- What a call hands back, as values of ours: rows and variables that it made get numbers of their own. -/
def resOf (s : St E) (base : Nat) : Nat → List (RV E) → List (Fv E) × List (Nat × Bx E) × List (Nat × Rw E)
  | _, [] => ([], [], [])
  | j, x :: r => match resOf s base (j + 1) r, x with
    | (vs, bs, rs), .lf l => (.lf l :: vs, bs, rs)
    | (vs, bs, rs), .agg ls => (.agg ls :: vs, bs, rs)
    | (vs, bs, rs), .own e t xs => (.own (base + j) (ver s (base + j)) none :: vs, bs, (base + j, ⟨true, ver s (base + j), e, t, xs⟩) :: rs)
    | (vs, bs, rs), .ref ty ls => (.ptr (base + j) (gen s (base + j)) 0 :: vs, (base + j, ⟨gen s (base + j), ty, ls⟩) :: bs, rs)
def keys {α : Type} : List (Nat × α) → List Nat
  | [] => []
  | (n, _) :: r => n :: keys r
def nodup : List Nat → Bool
  | [] => true
  | n :: r => !(r.any (Nat.beq n)) && nodup r
def updL {α : Type} (f : Nat → Option α) : List (Nat × α) → Nat → Option α
  | [] => f
  | (n, x) :: r => upd (updL f r) n (some x)
/-! What an operation comes to is laid open before it is put down: so the terms stay small. -/
def fNat (n : Nat) (K : Nat → Prop) : Prop := match n with | 0 => K 0 | n + 1 => K (n + 1)
def fOI (o : Option Int) (K : Option Int → Prop) : Prop := match o with | none => K none | some (.ofNat n) => K (some (.ofNat n)) | some (.negSucc n) => K (some (.negSucc n))
def fLf (l : Lf E) (K : Lf E → Prop) : Prop := match l with
  | .int k n lo hi => fOI lo fun lo => fOI hi fun hi => K (.int k n lo hi)
  | .bool b => K (.bool b)
  | .str b => K (.str b)
  | .row fr t xs => K (.row fr t xs)
def fLs : List (Lf E) → (List (Lf E) → Prop) → Prop
  | [], K => K []
  | l :: r, K => fLf l fun l => fLs r fun r => K (l :: r)
def fON (m : Option Nat) (K : Option Nat → Prop) : Prop := match m with | none => K none | some n => K (some n)
def fFv (v : Fv E) (K : Fv E → Prop) : Prop := match v with
  | .lf l => fLf l fun l => K (.lf l)
  | .agg ls => fLs ls fun ls => K (.agg ls)
  | .own r v m => fNat v fun v => fON m fun m => K (.own r v m)
  | .ptr b g o => fNat g fun g => fNat o fun o => K (.ptr b g o)
  | .eptr r v i o => fNat v fun v => fNat o fun o => K (.eptr r v i o)
  | .lptr fr ls => fLs ls fun ls => K (.lptr fr ls)
  | .nil => K .nil
  | .nilp => K .nilp
  | .any => K .any
def fFvs : List (Fv E) → (List (Fv E) → Prop) → Prop
  | [], K => K []
  | v :: r, K => fFv v fun v => fFvs r fun r => K (v :: r)
def fAV (v : AV E) (K : AV E → Prop) : Prop := match v with
  | .f v => fFv v fun v => K (.f v)
  | .tup vs => fFvs vs fun vs => K (.tup vs)
  | .fn f vs => fFvs vs fun vs => K (.fn f vs)
def fWb : List (Nat × Bx E) → (List (Nat × Bx E) → Prop) → Prop
  | [], K => K []
  | (n, ⟨g, ty, cs⟩) :: r, K => fNat g fun g => fLs cs fun cs => fWb r fun r => K ((n, ⟨g, ty, cs⟩) :: r)
def fB (b : Bool) (K : Bool → Prop) : Prop := match b with | true => K true | false => K false
def fWr : List (Nat × Rw E) → (List (Nat × Rw E) → Prop) → Prop
  | [], K => K []
  | (n, ⟨l, v, e, t, xs⟩) :: r, K => fB l fun l => fNat v fun v => fWr r fun r => K ((n, ⟨l, v, e, t, xs⟩) :: r)
variable (CS : FuncId → List (PA E) → List (RV E) → List (List (Lf E)) → Prop)
/-- The rows of our own that are handed on are sealed ahead of a call. -/
def sealE (s : St E) : List (AV E) → (List (AV E) → List (Nat × Rw E) → Prop) → Prop
  | [], K => K [] []
  | x :: r, K => match x with
    | .f (.own q v none) => match s.rw q with
      | some ⟨true, v', e, t, xs⟩ => match Nat.beq v v' with
        | true => sealE s r fun ys wr => K (.f (.lf (.row .made t xs)) :: ys) ((q, ⟨false, v' + 1, e, t, xs⟩) :: wr)
        | false => False
      | _ => False
    | x => sealE s r fun ys wr => K (x :: ys) wr
/-- A call by the contract (ps', res, cells). -/
def callP (s : St E) (dst : Option Nat) (xs : List (AV E)) (ts : List TypeId) (ps' : List (PA E)) (res : List (RV E)) (cells : List (List (Lf E))) (K : Ef E → Prop) : Prop :=
  pasOf Γ s xs ts fun ps rb rr => ps.map stripP = ps'.map stripP ∧
    cM (leP ps ps' && noLentR res && noLentC cells) (refsNow s rb cells fun wb => match resOf s (1024 + 8 * dst.getD 0) 0 res with
      | (vs, bs, rs) => cM (nodup (keys bs ++ rb) && nodup (keys rs)) (match vs with
        | [v] => K ⟨keys bs ++ rb, keys rs ++ rr, .f v, bs ++ wb, rs⟩
        | vs => K ⟨keys bs ++ rb, keys rs ++ rr, .tup vs, bs ++ wb, rs⟩))
def callQ (s : St E) (dst : Option Nat) (xs : List (AV E)) (ts : List TypeId) (ps' : List (PA E)) (res : List (RV E)) (cells : List (List (Lf E))) (K : Ef E → Prop) : Prop :=
  sealE s xs fun ys sw => cM (nodup (keys sw)) (fWr sw fun sw => callP Γ ⟨s.sl, s.bx, updL s.rw sw⟩ dst ys ts ps' res cells fun ef => match ef with
    | ⟨rb, rr, v, wb, wr⟩ => K ⟨rb, keys sw ++ rr, v, wb, wr ++ sw⟩)
@[irreducible] def callE (s : St E) (dst : Option Nat) (f : FuncId) (xs : List (AV E)) (ts : List TypeId) (K : Ef E → Prop) : Prop :=
  ∃ (ps' : List (PA E)) (res : List (RV E)) (cells : List (List (Lf E))), CS f ps' res cells ∧ (callP Γ s dst xs ts ps' res cells K ∨ callQ Γ s dst xs ts ps' res cells K)
def litOf : Operand → Option Nat
  | .const (.int _ n) => match decide (0 ≤ n) with | true => some n.toNat | false => none
  | _ => none
def opE (s : St E) (o : Oper) (K : Ef E → Prop) : Prop :=
  match o.op with
  | .move x => K (pu (ev s x))
  | .assign x => K (pu (ev s x))
  | .pick c a b => match ev s c with
    | .f (.lf (.bool t)) => brE t (K (pu (ev s a))) (K (pu (ev s b)))
    | _ => False
  | .alloc e => match o.dst with
    | some d => tyE Γ e fun te => K ⟨[d], [], .f (.ptr d (gen s d) 0), [(d, ⟨gen s d, e, te.zero⟩)], []⟩
    | none => False
  | .box e x => match o.dst with
    | some d => tyE Γ e fun te => cellsOf s te.zero (ev s x) fun ls rr wr => cM (Nat.beq ls.length te.size) <| K ⟨[d], rr, .f (.ptr d (gen s d) 0), [(d, ⟨gen s d, e, ls⟩)], wr⟩
    | none => False
  | .build t parts => tyE Γ t fun ti => cM ti.agg <| fillE Γ s ti.k ti.zero parts.toList fun cs rr wr => cM (nodup (keys wr)) <| K ⟨[], rr, .f (.agg cs), [], wr⟩
  | .buildSlice t n parts => match o.dst with
    | some d => buildSliceE V Γ s d t n parts.toList K
    | none => False
  | .load t p => loadE V Γ s t (ev s p) K
  | .store t p x => storeE V Γ s t (ev s p) (ev s x) K
  | .nilCheck x => shift s 0 (ev s x) K
  | .binOp op t x y _ => binE Γ op t (ev s x) (ev s y) (litOf y) fun v => K (pu v)
  | .unOp op _ x => unE op (ev s x) fun v => K (pu v)
  | .convert src dst x => convE Γ s src dst (ev s x) K
  | .slice t x lo hi none => sliceE Γ s t (ev s x) (lo.map (ev s)) (hi.map (ev s)) K
  | .fieldAddr t x f => fieldAddrE Γ s t (ev s x) f K
  | .field t x f => fieldE Γ t (ev s x) f fun v => K (pu v)
  | .indexAddr t x i => idxAddrE V Γ s t (ev s x) (ev s i) K
  | .index t x i => indexE Γ t (ev s x) (ev s i) fun v => K (pu v)
  | .extract x i => match ev s x with
    | .tup vs => match vs[i]? with
      | some v => K (pu (.f v))
      | none => False
    | _ => False
  | .call c => match c.callee with
    | .value (.func f) => callE Γ CS s o.dst f (c.args.toList.map (ev s)) c.argTypes.toList K
    | .builtin .len => match c.args.toList, c.argTypes.toList with
      | [x], [t] => lenE Γ s t (ev s x) K
      | _, _ => False
    | .builtin .max => match c.args.toList.map (ev s) with
      | x :: r => foldE maxE x r fun v => K (pu v)
      | [] => False
    | .builtin .min => match c.args.toList.map (ev s) with
      | x :: r => foldE minE x r fun v => K (pu v)
      | [] => False
    | .builtin .append => match c.args.toList, c.argTypes.toList, o.dst with
      | [x, y], [t, t'], some d => match Nat.beq t t' with
        | true => appendE V Γ s d t (ev s x) (ev s y) K
        | false => False
      | _, _, _ => False
    | _ => False
  | _ => False

/-! ## Regions, and the rest of the text -/
def putD (f : Nat → AV E) (d : Option Nat) (x : AV E) : Nat → AV E := match d with | some n => upd f n x | none => f
def app (s : St E) (o : Oper) (ef : Ef E) : St E :=
  match s with
  | ⟨sl, bx, rw⟩ => ⟨putD sl o.dst ef.v, updL bx ef.wb, updL rw ef.wr⟩
structure FP where
  rs : List Nat
  ws : List Nat
  rm : List Nat
  wm : List Nat
def tmpsOf : List Operand → List Nat
  | [] => []
  | .tmp n :: r => n :: tmpsOf r
  | _ :: r => tmpsOf r
def evens : List Nat → List Nat
  | [] => []
  | n :: r => 2 * n :: evens r
def odds : List Nat → List Nat
  | [] => []
  | n :: r => (2 * n + 1) :: odds r
def fpOf (o : Oper) (g : List Nat) (ef : Ef E) : FP :=
  ⟨g ++ tmpsOf o.op.operands.toList, o.dst.toList, evens ef.rb ++ odds ef.rr, evens (keys ef.wb) ++ odds (keys ef.wr)⟩
def fEf (ef : Ef E) (K : Ef E → Prop) : Prop := match ef with
  | ⟨rb, rr, v, wb, wr⟩ => fAV v fun v => fWb wb fun wb => fWr wr fun wr => K ⟨rb, rr, v, wb, wr⟩
def fPut {α : Type} (f : Nat → α) (d : Option Nat) (x : α) (K : (Nat → α) → Prop) : Prop := match d with | some n => K (upd f n x) | none => K f
def fUpd {α : Type} (f : Nat → Option α) : List (Nat × α) → ((Nat → Option α) → Prop) → Prop
  | [], K => K f
  | (n, x) :: r, K => fUpd f r fun f => K (upd f n (some x))
def fApp (s : St E) (o : Oper) (ef : Ef E) (K : St E → Prop) : Prop := match s with
  | ⟨sl, bx, rw⟩ => fPut sl o.dst ef.v fun sl => fUpd bx ef.wb fun bx => fUpd rw ef.wr fun rw => K ⟨sl, bx, rw⟩
def evalOps (ops : Array Oper) : List Oper → St E → List FP → (St E → List FP → Prop) → Prop
  | [], s, log, K => K s log
  | o :: r, s, log, K => match o.guard with
    | none => opE V Γ CS s o fun ef => fEf ef fun ef => fApp s o ef fun s' => evalOps ops r s' (fpOf o [] ef :: log) K
    | some (j, want) => match (ops[j]?).bind (·.dst) with
      | some d => match s.sl d with
        | .f (.lf (.bool b)) => match want with
          | true => brE b (opE V Γ CS ⟨upd s.sl d (.f (.lf (.bool true))), s.bx, s.rw⟩ o fun ef => fEf ef fun ef => fApp ⟨upd s.sl d (.f (.lf (.bool true))), s.bx, s.rw⟩ o ef fun s' => evalOps ops r s' (fpOf o [d] ef :: log) K)
              (fApp ⟨upd s.sl d (.f (.lf (.bool false))), s.bx, s.rw⟩ o (pu (.tup [])) fun s' => evalOps ops r s' (fpOf o [d] (pu (E := E) (.tup [])) :: log) K)
          | false => brE b (fApp ⟨upd s.sl d (.f (.lf (.bool true))), s.bx, s.rw⟩ o (pu (.tup [])) fun s' => evalOps ops r s' (fpOf o [d] (pu (E := E) (.tup [])) :: log) K)
              (opE V Γ CS ⟨upd s.sl d (.f (.lf (.bool false))), s.bx, s.rw⟩ o fun ef => fEf ef fun ef => fApp ⟨upd s.sl d (.f (.lf (.bool false))), s.bx, s.rw⟩ o ef fun s' => evalOps ops r s' (fpOf o [d] ef :: log) K)
        | .tup [] => fApp s o (pu (.tup [])) fun s' => evalOps ops r s' (fpOf o [d] (pu (E := E) (.tup [])) :: log) K
        | _ => False
      | none => False
def disj (a b : List Nat) : Bool := !(a.any fun x => b.any (Nat.beq x))
def FP.apart (x y : FP) : Bool := disj x.ws (y.rs ++ y.ws) && disj y.ws x.rs && disj x.wm (y.rm ++ y.wm) && disj y.wm x.rm
def apartLog (ops : Array Oper) : List FP → Bool
  | [] => true
  | x :: r => apartLog ops r && go x r.length r r.length
where
  go (x : FP) (i : Nat) : List FP → Nat → Bool
    | [], _ => true
    | y :: r, 0 => true
    | y :: r, j + 1 => (pred ops j i || y.apart x) && go x i r j
variable (G : List Item → St E → Prop) (Fin : List (RV E) → List (List (Lf E)) → Prop)
def tkO {α : Type} (m : Option Nat) (xs : List α) : List α := match m with | none => xs | some n => xs.take n
/-- The results. 'ids': the rows and variables that were handed back already. -/
def valsOf (s : St E) : List ResultVar → List TypeId → (List (RV E) → List Nat → Prop) → Prop
  | [], _, K => K [] []
  | .tmp u :: r, t :: ts, K => match s.sl u with
    | .f (.lf l) => valsOf s r ts fun vs ids => K (.lf (fgt l) :: vs) ids
    | .f (.agg ls) => valsOf s r ts fun vs ids => K (.agg (ls.map fgt) :: vs) ids
    | .f .nil => tyE Γ t fun ti => match ti.k with
      | .slice e => tyE Γ e fun te => valsOf s r ts fun vs ids => K (.own e te.el [] :: vs) ids
      | _ => False
    | .f (.own q v m) => match s.rw q with
      | some ⟨true, v', e, t', xs⟩ => match Nat.beq v v' with
        | true => valsOf s r ts fun vs ids => K (.own e t' (tkO m xs) :: vs) ((2 * q + 1) :: ids)
        | false => False
      | _ => False
    | .f (.ptr b g 0) => match s.bx b with
      | some ⟨g', ty, cells⟩ => match Nat.beq g g' with
        | true => valsOf s r ts fun vs ids => K (.ref ty (cells.map fgt) :: vs) (2 * b :: ids)
        | false => False
      | none => False
    | _ => False
  | .cell p ty :: r, t :: ts, K => match s.sl p with
    | .f (.ptr b g 0) => match s.bx b with
      | some ⟨g', _, cells⟩ => match Nat.beq g g' with
        | true => valOf Γ ty cells fun v => match v with
          | .f (.agg ls) => valsOf s r ts fun vs ids => K (.agg (ls.map fgt) :: vs) ids
          | .f (.lf l) => valsOf s r ts fun vs ids => K (.lf (fgt l) :: vs) ids
          | _ => False
        | false => False
      | none => False
    | _ => False
  | _ :: _, [], _ => False
def refCells (s : St E) : List (Nat × TypeId) → (List (List (Lf E)) → Prop) → Prop
  | [], K => K []
  | (b, ty) :: r, K => match s.bx b with
    | some ⟨0, ty', cells⟩ => match Nat.beq ty ty' with
      | true => refCells s r fun cs => K (cells.map fgt :: cs)
      | false => False
    | _ => False
def retE (rv : List ResultVar) (rt : List TypeId) (refs : List (Nat × TypeId)) (s : St E) : Prop :=
  valsOf Γ s rv rt fun vs ids => cM (nodup (ids ++ evens (keys refs))) <| refCells s refs fun cs => Fin vs cs
variable (rv : List ResultVar) (rt : List TypeId) (refs : List (Nat × TypeId)) (nt : Nat)
/-- Each operation's place is one of the activation's. -/
def dsts (nt : Nat) : List Oper → Bool
  | [] => true
  | o :: r => (match o.dst with | some d => Nat.blt d nt | none => true) && dsts nt r
def EC : Code → List Item → St E → Prop
  | .skip, k, s => G k s
  | .region _ ops draw, k, s => evalOps V Γ CS ops ops.toList s [] fun s' log => Ck (dsts nt ops.toList && (!draw || (chk ops && apartLog ops log))) (G k s')
  | .seq a b, k, s => EC a (.code b :: k) s
  | .cond c x y, k, s => match ev s c with
    | .f (.lf (.bool b)) => brE b (G (.code x :: k) s) (G (.code y :: k) s)
    | _ => False
  | .block id c, k, s => EC c (.inBlock id :: k) s
  | .loop c, k, s => G (.code c :: .inLoop c :: k) s
  | .exit id, k, s => match exitTo id k with
    | some k' => G k' s
    | none => False
  | .ret, _, s => retE Γ Fin rv rt refs s
  | _, _, _ => False
def EI : List Item → St E → Prop
  | [], s => retE Γ Fin rv rt refs s
  | .code c :: k, s => EC V Γ CS G Fin rv rt refs nt c k s
  | .inBlock _ :: k, s => G k s
  | .inLoop c :: k, s => G (.code c :: .inLoop c :: k) s
  | _, _ => False
/-! ## A place where ways meet: what is still known there -/
inductive HV (E : Env) : Type where
  | av (v : AV E)
  | own (r : Nat) (e : TypeId) (t : Ty) (xs : List (El E t))
def findN {α : Type} : List (Nat × α) → Nat → Option α
  | [], _ => none
  | (n, x) :: r, m => match Nat.beq n m with | true => some x | false => findN r m
def hvAV : HV E → AV E
  | .av v => v
  | .own r _ _ _ => .f (.own r 0 none)
def slotsOf : List (Nat × HV E) → Nat → AV E
  | [], _ => .f .any
  | (n, x) :: r, m => cond (Nat.beq m n) (hvAV x) (slotsOf r m)
def rowsOf : List (Nat × HV E) → Nat → Option (Rw E)
  | [], _ => none
  | (_, .own r e t xs) :: l, m => cond (Nat.beq m r) (some ⟨true, 0, e, t, xs⟩) (rowsOf l m)
  | _ :: l, m => rowsOf l m
def boxesOf : List (Nat × TypeId × List (Lf E)) → Nat → Option (Bx E)
  | [], _ => none
  | (b, ty, cs) :: l, m => cond (Nat.beq m b) (some ⟨0, ty, cs⟩) (boxesOf l m)
/-- The state of a place where ways meet. -/
def hdSt (sl : List (Nat × HV E)) (bx : List (Nat × TypeId × List (Lf E))) : St E := ⟨slotsOf sl, boxesOf bx, rowsOf sl⟩
/-- Of 'l'' no less is known than of 'l'. -/
def leLf (l' l : Lf E) : Prop :=
  match l, l' with
  | .row fr t xs, .row fr' t' xs' => cM (fr'.le fr) ((Lf.row fr t' xs' : Lf E) = .row fr t xs)
  | l, l' => fgt l' = l
def leLfs : List (Lf E) → List (Lf E) → Prop
  | [], [] => True
  | l' :: r', l :: r => leLf l' l ∧ leLfs r' r
  | _, _ => False
def plain (r : Nat) : AV E → Bool
  | .f (.own r' _ none) => Nat.beq r r'
  | _ => false
/-- The row 'r' is handed over whole, and was the state's row 'r0'. -/
def whole (s : St E) (r0 : Nat) : List (Nat × HV E) → Nat → Bool
  | [], _ => false
  | (n, .own r _ _ _) :: l, r' => (Nat.beq r r' && plain r0 (s.sl n)) || whole s r0 l r'
  | _ :: l, r' => whole s r0 l r'
/-- The state's rows that are handed over. -/
def srcs (s : St E) : List (Nat × HV E) → List Nat
  | [] => []
  | (n, .own _ _ _ _) :: l => match s.sl n with
    | .f (.own r' _ _) => r' :: srcs s l
    | _ => srcs s l
  | _ :: l => srcs s l
def subSlot (s : St E) (sl : List (Nat × HV E)) (bs : List Nat) (h : HV E) (x : AV E) : Prop :=
  match h, x with
  | .av (.f .any), _ => True
  | .av (.f (.lf l)), .f (.lf l') => leLf l' l
  | .av (.f (.agg ls)), .f (.agg ls') => leLfs ls' ls
  | .av (.f (.ptr b 0 off)), .f (.ptr b' g' off') => match s.bx b' with
    | some ⟨g, _, _⟩ => (Nat.beq b b' && Nat.beq off off' && Nat.beq g g' && bs.any (Nat.beq b)) = true
    | none => False
  | .av (.f (.own r 0 none)), .f (.own r' v none) => match s.rw r' with
    | some ⟨true, v', _, _, _⟩ => (Nat.beq v v' && whole s r' sl r) = true
    | _ => False
  | .av (.f .nil), .f .nil => True
  | .av (.f .nilp), .f .nilp => True
  | .own r e t xs, .f (.own r' v m) => match s.rw r' with
    | some ⟨true, v', e', t', xs'⟩ => (Nat.beq v v' && Nat.beq e e') = true ∧ (⟨t', tkO m xs'⟩ : (t : Ty) × List (El E t)) = ⟨t, xs⟩
    | _ => False
  | .own r e t xs, .f .nil => xs = [] ∧ Nat.blt 0 (tsz V t) = true
  | _, _ => False
def subSlots (s : St E) (sl : List (Nat × HV E)) (bs : List Nat) : List (Nat × HV E) → Prop
  | [] => True
  | (n, h) :: l => subSlot V s sl bs h (s.sl n) ∧ subSlots s sl bs l
def subBoxes (s : St E) : List (Nat × TypeId × List (Lf E)) → Prop
  | [] => True
  | (b, ty, cs) :: l => (match s.bx b with
    | some ⟨_, ty', cs'⟩ => Nat.beq ty ty' = true ∧ leLfs cs' cs
    | none => False) ∧ subBoxes s l
def ownsOf : List (Nat × HV E) → List Nat
  | [] => []
  | (_, .own r _ _ _) :: l => r :: ownsOf l
  | _ :: l => ownsOf l
/-- The variables that were handed on are there still. -/
def refsIn (s : St E) (bs : List Nat) : List Nat → Bool
  | [] => true
  | b :: r => (match s.bx b with | some ⟨0, _, _⟩ => bs.any (Nat.beq b) | _ => false) && refsIn s bs r
def Sub (refs : List Nat) (s : St E) (sl : List (Nat × HV E)) (bx : List (Nat × TypeId × List (Lf E))) : Prop :=
  (nodup (ownsOf sl) && nodup (srcs s sl) && nodup (keys sl) && nodup (keys bx) && refsIn s (keys bx) refs) = true ∧ subSlots V s sl (keys bx) sl ∧ subBoxes s bx
/-- A place of a text, and what is still to be done behind it. -/
def nodeAt : Code → List Item → List Nat → Code × List Item
  | c, k, [] => (c, k)
  | .seq a b, k, 0 :: p => nodeAt a (.code b :: k) p
  | .seq a b, k, _ :: p => nodeAt b k p
  | .cond _ x y, k, 0 :: p => nodeAt x k p
  | .cond _ x y, k, _ :: p => nodeAt y k p
  | .block id c, k, _ :: p => nodeAt c (.inBlock id :: k) p
  | .loop c, k, _ :: p => nodeAt c (.inLoop c :: k) p
  | c, k, _ => (c, k)
def bodyOf (fn : Func) : Code := match fn.body with | some c => c | none => .skip
/-- Behind a place; at the head of the loop that begins there. -/
def contAt (fn : Func) (p : List Nat) : List Item := (nodeAt (bodyOf fn) [] p).2
def loopAt (fn : Func) (p : List Nat) : List Item := match nodeAt (bodyOf fn) [] p with | (.loop c, k) => .code c :: .inLoop c :: k | _ => []
/-! ## A function -/
def entSl : Nat → List (PA E) → List (Nat × HV E)
  | _, [] => []
  | j, .lf l :: r => (j, .av (.f (.lf l))) :: entSl (j + 1) r
  | j, .agg ls :: r => (j, .av (.f (.agg ls))) :: entSl (j + 1) r
  | j, .ref _ _ :: r => (j, .av (.f (.ptr j 0 0))) :: entSl (j + 1) r
  | j, .fn _ _ :: r => entSl (j + 1) r
def entBx : Nat → List (PA E) → List (Nat × TypeId × List (Lf E))
  | _, [] => []
  | j, .ref ty ls :: r => (j, ty, ls) :: entBx (j + 1) r
  | j, _ :: r => entBx (j + 1) r
def refsT : Nat → List (PA E) → List (Nat × TypeId)
  | _, [] => []
  | j, .ref ty _ :: r => (j, ty) :: refsT (j + 1) r
  | j, _ :: r => refsT (j + 1) r
def refsOf : Nat → List (PA E) → List Nat
  | _, [] => []
  | j, .ref _ _ :: r => j :: refsOf (j + 1) r
  | j, _ :: r => refsOf (j + 1) r
/-- The state in which a function begins. -/
def entSt (ps : List (PA E)) : St E := hdSt (entSl 0 ps) (entBx 0 ps)
/-- The row that place 'n' holds is sealed. -/
def seal1 (s : St E) (n : Nat) (K : St E → Prop) : Prop :=
  match s.sl n with
  | .f (.own r v none) => match s.rw r with
    | some ⟨true, v', e, t, xs⟩ => match Nat.beq v v' with
      | true => fNat v' fun v' => K ⟨upd s.sl n (.f (.lf (.row .made t xs))), s.bx, upd s.rw r (some ⟨false, v' + 1, e, t, xs⟩)⟩
      | false => False
    | _ => False
  | _ => False
/-- A function's text comes to the results 'res', and leaves 'cells' in the variables that were handed on. -/
def Fn (fn : Func) (ps : List (PA E)) (res : List (RV E)) (cells : List (List (Lf E))) : Prop :=
  ∀ G : List Item → St E → Prop, (∀ k s, EI V Γ CS G (fun rv' cs' => rv' = res ∧ cs' = cells) fn.results.toList fn.resultTypes.toList (refsT 0 ps) fn.ntmps k s → G k s) →
    (∀ k s sl bx, Sub V (refsOf 0 ps) s sl bx → G k (hdSt sl bx) → G k s) → (∀ k s n, seal1 s n (G k) → G k s) → G [.code (bodyOf fn)] (entSt ps)
/-- Nothing that is handed over was made by whoever gets it. -/
def okLs : List (Lf E) → Bool
  | [] => true
  | .row .made _ _ :: _ => false
  | _ :: r => okLs r
def okPs : List (PA E) → Bool
  | [] => true
  | .lf l :: r => okLs [l] && okPs r
  | .agg ls :: r => okLs ls && okPs r
  | .ref _ ls :: r => okLs ls && okPs r
  | .fn _ _ :: _ => false
end
end Go.Tx
set_option linter.unusedVariables false
set_option linter.unusedSimpArgs false
namespace Go.Tx
open Go.RowKit

section
variable {E : Env} {V : Lv E}
structure LvOk (V : Lv E) : Prop where
  len : ∀ n x, (V.lv n x).length = V.sz n
  flat : ∀ n x, V.flat n = true → ∀ l ∈ V.lv n x, ∀ fr, flag fr l = l
  tr : ∀ n x, ∀ l ∈ V.lv n x, flag .made l = l
theorem leaves_len (hV : LvOk V) (t : Ty) (x : El E t) : (leaves V t x).length = tsz V t := by
  cases t <;> simp [leaves, tsz]
  exact hV.len _ _
theorem leaves_lt (hV : LvOk V) {t : Ty} {x : El E t} {i : Nat} {l : Lf E} (h : (leaves V t x)[i]? = some l) : i < tsz V t := by
  rw [← leaves_len hV t x]
  exact (List.getElem?_eq_some_iff.1 h).1
theorem leaves_true (hV : LvOk V) {t : Ty} {x : El E t} {i : Nat} {l : Lf E} (h : (leaves V t x)[i]? = some l) : flag .made l = l := by
  have hm := List.mem_of_getElem? h
  cases t <;> simp only [leaves, List.mem_singleton] at hm <;> first | (subst hm; rfl) | exact hV.tr _ _ _ hm
theorem flag_flag (a b : Fr) (l : Lf E) : flag a (flag b l) = flag a l := by cases l <;> rfl
theorem fgt_fgt (l : Lf E) : fgt (fgt l) = fgt l := by cases l <;> rfl
theorem flag_fgt (a : Fr) (l : Lf E) : flag a (fgt l) = fgt (flag a l) := by cases l <;> rfl

section
variable {w w' : World} {F F' : Fr → Nat → Prop} {l : Lf E} {v : Value}
theorem RepP.move (h : RepP V w F l v) (hF : ∀ b k, F b k → F' b k) (hm : ∀ b k, F b k → w'.heap[k]? = w.heap[k]?) : RepP V w' F' l v := by
  induction h with
  | int a b => exact .int a b
  | bool => exact .bool
  | str h => exact .str h
  | nil => exact .nil
  | row u hl hm' hFb hc hr ih =>
    refine .row u hl hm' (hF _ _ hFb) (fun j x i l h1 h2 => ?_) ih
    rw [← hc j x i l h1 h2]
    exact World.cell?_of_block (a := ⟨_, _, none⟩) (hm _ _ hFb)
/-- Whoever has more may be trusted with less. -/
def Mono (F : Fr → Nat → Prop) : Prop := ∀ a b k, Fr.le a b = true → F a k → F b k
def Lf.fr : Lf E → Fr
  | .row fr _ _ => fr
  | _ => .made
theorem Fr.le_refl (a : Fr) : Fr.le a a = true := by cases a <;> rfl
theorem Fr.made_le (a : Fr) : Fr.le .made a = true := rfl
theorem Fr.le_lent (a : Fr) : Fr.le a .lent = true := by cases a <;> rfl
theorem Fr.le_trans {a b c : Fr} (h : Fr.le a b = true) (k : Fr.le b c = true) : Fr.le a c = true := by cases a <;> cases b <;> cases c <;> simp_all [Fr.le]
theorem RepP.weak (h : RepP V w F l v) (hF : Mono F) (fr : Fr) (hl : Fr.le l.fr fr = true) : RepP V w F (flag fr l) v := by
  have key : ∀ (a : Fr) {l v}, RepP V w F l v → ∀ l0, l = flag a l0 → Fr.le a fr = true → RepP V w F (flag fr l0) v := by
    intro a l v h
    induction h with
    | int x y => intro l0 he _; cases l0 <;> simp [flag] at he <;> (obtain ⟨rfl, rfl, rfl, rfl⟩ := he; exact .int x y)
    | bool => intro l0 he _; cases l0 <;> simp [flag] at he; subst he; exact .bool
    | str h => intro l0 he _; cases l0 <;> simp [flag] at he; subst he; exact .str h
    | nil =>
      intro l0 he _
      cases l0 <;> simp [flag] at he
      obtain ⟨_, rfl, he⟩ := he
      cases he
      exact .nil
    | row u hl hm' hFb hc hr ih =>
      intro l0 he hle
      cases l0 <;> simp [flag] at he
      obtain ⟨rfl, rfl, he⟩ := he
      cases he
      refine .row u hl hm' (hF _ _ _ hle hFb) hc (fun j x i l h1 h2 => ?_)
      exact ih j x i l h1 h2 l rfl hle
  have hfl : l = flag l.fr l := by cases l <;> rfl
  exact key l.fr h l hfl hl
theorem RepP.fgt (h : RepP V w F l v) : RepP V w F (fgt l) v := by
  cases h with
  | int a b => exact .int a ⟨nofun, nofun⟩
  | bool => exact .bool
  | str h => exact .str h
  | nil => exact .nil
  | row u hl hm' hFb hc hr => exact .row u hl hm' hFb hc hr
theorem RepP.one (h : RepP V w F l v) : v.oneCell' = true := by cases h <;> rfl
theorem RepP.le {l' : Lf E} (h : RepP V w F l' v) (hF : Mono F) (hl : leLf l' l) : RepP V w F l v := by
  unfold leLf at hl
  split at hl
  · rename_i fr t xs fr' t' xs'
    unfold cM at hl
    split at hl
    · rename_i hb
      rw [← hl]
      exact h.weak hF fr hb
    · cases hl
  · rw [← hl]; exact h.fgt
end

/-! ## A state and what it stands for -/
structure Cx where
  imm : Nat → Prop
  lent : Nat → Prop
  w0 : World
  refb : Nat → Prop
  N : Nat
structure Gh where
  Z : Nat → Prop
  bb : Nat → Nat
  rv : Nat → Value
def FF (c : Cx) (g : Gh) (b : Fr) (k : Nat) : Prop :=
  match b with
  | .made => g.Z k
  | .kept => g.Z k ∨ c.imm k
  | .lent => g.Z k ∨ c.imm k ∨ c.lent k
theorem FF.mono (c : Cx) (g : Gh) : Mono (FF c g) := by
  intro a b k hl h
  cases a <;> cases b <;> simp [Fr.le] at hl <;> simp only [FF] at h ⊢ <;> first | exact h | exact .inl h | exact h.imp id .inl
theorem FF.ext {c : Cx} {g g' : Gh} (h : ∀ k, g.Z k → g'.Z k) (b : Fr) (k : Nat) (hk : FF c g b k) : FF c g' b k := by
  cases b with
  | made => exact h k hk
  | kept => exact hk.imp (h k) id
  | lent => exact hk.imp (h k) id
theorem FF.weak {c : Cx} {g : Gh} (k : Nat) (h : FF c g .made k) : FF c g .lent k := .inl h
variable (V)
def OwnVal (g : Gh) (r : Nat) (row : Rw E) (m : Option Nat) (v : Value) : Prop :=
  match m with
  | none => v = g.rv r
  | some n => n ≤ row.xs.length ∧ ∃ A c, g.rv r = .slice A row.xs.length c ∧ v = .slice A n c
/-- The cells 'cs' stand for the leaves. -/
def RepL (w : World) (F : Fr → Nat → Prop) (ls : List (Lf E)) (cs : List Value) : Prop :=
  cs.length = ls.length ∧ ∀ (i : Nat) (l : Lf E), ls[i]? = some l → ∃ u, cs[i]? = some u ∧ RepP V w F l u
def RepF (c : Cx) (g : Gh) (s : St E) (w : World) : Fv E → Value → Prop
  | .lf l, v => RepP V w (FF c g) l v
  | .agg ls, v => ∃ cs : Array Value, v = .agg cs ∧ RepL V w (FF c g) ls cs.toList
  | .own r ver m, v => ∃ row, s.rw r = some row ∧ ver ≤ row.ver ∧ (row.live = true → row.ver = ver → OwnVal g r row m v)
  | .ptr b gn off, v => ∃ bx, s.bx b = some bx ∧ gn ≤ bx.gen ∧ (bx.gen = gn → v = .pointer (some ⟨g.bb b, off, none⟩))
  | .eptr r ver i off, v => ∃ row, s.rw r = some row ∧ ver ≤ row.ver ∧ (row.live = true → row.ver = ver → 0 ≤ i ∧ i < row.xs.length ∧
      ∃ k n cap, g.rv r = .slice (some ⟨k, 0, none⟩) n cap ∧ v = .pointer (some ⟨k, i.toNat * tsz V row.t + off, none⟩))
  | .lptr fr ls, v => ∃ b o, v = .pointer (some ⟨b, o, none⟩) ∧ FF c g fr b ∧ ∀ (i : Nat) (l : Lf E), ls[i]? = some l → ∃ u, w.cell? ⟨b, o + i, none⟩ = some u ∧ RepP V w (FF c g) l u
  | .nil, v => v = .slice none 0 0
  | .nilp, v => v = .pointer none
  | .any, _ => True
def RepA (c : Cx) (g : Gh) (s : St E) (w : World) : AV E → Value → Prop
  | .f x, v => RepF V c g s w x v
  | .tup xs, v => ∃ vs : Array Value, v = .tuple vs ∧ vs.size = xs.length ∧ ∀ (i : Nat) (x : Fv E), xs[i]? = some x → ∃ u, vs[i]? = some u ∧ RepF V c g s w x u
  | .fn f caps, v => ∃ vs : Array Value, v = .func (.func f) #[] vs ∧ vs.size = caps.length ∧ ∀ (i : Nat) (x : Fv E), caps[i]? = some x → ∃ u, vs[i]? = some u ∧ RepF V c g s w x u
/-- The elements of a row stand in its cells. -/
def ElRep (w : World) (F : Fr → Nat → Prop) (t : Ty) (xs : List (El E t)) (cells : List Value) : Prop :=
  ∀ (j : Nat) (x : El E t) (i : Nat) (l : Lf E), xs[j]? = some x → (leaves V t x)[i]? = some l → ∃ u, cells[j * tsz V t + i]? = some u ∧ RepP V w F (flag .made l) u
def RowOk (c : Cx) (g : Gh) (w : World) (r : Nat) (row : Rw E) : Prop :=
  ∃ cells, w.ownsRow c.w0.heap.size row.e (tsz V row.t) (g.rv r) row.xs.length cells ∧ ElRep V w (FF c g) row.t row.xs cells ∧ 0 < tsz V row.t
def BoxOk (c : Cx) (g : Gh) (w : World) (b : Nat) (bx : Bx E) : Prop :=
  ∃ cs : Array Value, w.heap[g.bb b]? = some (.cells cs bx.ty (0, 0)) ∧ RepL V w (FF c g) bx.cells cs.toList
structure RelG (c : Cx) (g : Gh) (s : St E) (w : World) : Prop where
  os : w.os = c.w0.os
  tape : w.tape = c.w0.tape
  output : w.output = c.w0.output
  size : c.w0.heap.size ≤ w.heap.size
  old : ∀ k, k < c.w0.heap.size → ¬ c.refb k → w.heap[k]? = c.w0.heap[k]?
  imm : ∀ k, c.imm k ∨ c.lent k → k < c.w0.heap.size ∧ ¬ c.refb k
  zed : ∀ k, g.Z k → c.w0.heap.size ≤ k ∧ k < w.heap.size
  box : ∀ b bx, s.bx b = some bx → BoxOk V c g w b bx
  boxAt : ∀ b bx, s.bx b = some bx → (c.w0.heap.size ≤ g.bb b ∨ c.refb (g.bb b)) ∧ ¬ g.Z (g.bb b)
  boxInj : ∀ b b' bx bx', s.bx b = some bx → s.bx b' = some bx' → g.bb b = g.bb b' → b = b'
  row : ∀ r row, s.rw r = some row → row.live = true → RowOk V c g w r row
  rowAt : ∀ r row, s.rw r = some row → row.live = true → ∀ k, (g.rv r).ownBlock = some k → ¬ g.Z k ∧ ∀ b bx, s.bx b = some bx → g.bb b ≠ k
  rowInj : ∀ r r' row row', s.rw r = some row → s.rw r' = some row' → row.live = true → row'.live = true → ∀ k, (g.rv r).ownBlock = some k → (g.rv r').ownBlock = some k → r = r'
structure Rel (c : Cx) (g : Gh) (s : St E) (a : Act) (w : World) : Prop where
  mem : RelG V c g s w
  tmps : a.tmps.size = c.N
  defers : a.defers = []
  slot : ∀ n, RepA V c g s w (s.sl n) (a.tmps.getD n undef)
variable {V}

theorem RepL.move {w w' : World} {F F' : Fr → Nat → Prop} {ls : List (Lf E)} {cs : List Value} (h : RepL V w F ls cs) (hF : ∀ b k, F b k → F' b k) (hm : ∀ b k, F b k → w'.heap[k]? = w.heap[k]?) : RepL V w' F' ls cs :=
  ⟨h.1, fun i l hl => let ⟨u, h1, h2⟩ := h.2 i l hl; ⟨u, h1, h2.move hF hm⟩⟩
theorem ElRep.move {w w' : World} {F F' : Fr → Nat → Prop} {t : Ty} {xs : List (El E t)} {cs : List Value} (h : ElRep V w F t xs cs) (hF : ∀ b k, F b k → F' b k) (hm : ∀ b k, F b k → w'.heap[k]? = w.heap[k]?) : ElRep V w' F' t xs cs :=
  fun j x i l h1 h2 => let ⟨u, h3, h4⟩ := h j x i l h1 h2; ⟨u, h3, h4.move hF hm⟩

/-- From one state to a later one: what temporaries hold still stands for what it stood for. -/
structure Later (c : Cx) (g g' : Gh) (s s' : St E) (w w' : World) : Prop where
  Z : ∀ k, g.Z k → g'.Z k
  same : ∀ k, FF c g .lent k → w'.heap[k]? = w.heap[k]?
  bx : ∀ b x, s.bx b = some x → ∃ x', s'.bx b = some x' ∧ x.gen ≤ x'.gen ∧ (x'.gen = x.gen → g'.bb b = g.bb b)
  rw : ∀ r x, s.rw r = some x → ∃ x', s'.rw r = some x' ∧ x.ver ≤ x'.ver ∧ (x'.live = true → x'.ver = x.ver → x.live = true ∧ g'.rv r = g.rv r ∧ x'.xs.length = x.xs.length ∧ x'.t = x.t)
theorem Later.refl (c : Cx) (g : Gh) (s : St E) (w : World) : Later c g g s s w w :=
  ⟨fun _ h => h, fun _ _ => rfl, fun b x h => ⟨x, h, Nat.le_refl _, fun _ => rfl⟩, fun r x h => ⟨x, h, Nat.le_refl _, fun h1 _ => ⟨h1, rfl, rfl, rfl⟩⟩⟩
section
variable {c : Cx} {g g' : Gh} {s s' : St E} {w w' : World}
theorem Later.F (h : Later c g g' s s' w w') (b : Fr) (k : Nat) (hk : FF c g b k) : FF c g' b k := by
  cases b with
  | made => exact h.Z k hk
  | kept => exact hk.imp (h.Z k) id
  | lent => exact hk.imp (h.Z k) id
theorem FF.false (b : Fr) (k : Nat) (hk : FF c g b k) : FF c g .lent k := FF.mono c g b .lent k (Fr.le_lent b) hk
theorem Later.S (h : Later c g g' s s' w w') (b : Fr) (k : Nat) (hk : FF c g b k) : w'.heap[k]? = w.heap[k]? := h.same k (FF.false b k hk)
theorem RepF.later (h : Later c g g' s s' w w') {x : Fv E} {v : Value} (hx : RepF V c g s w x v) : RepF V c g' s' w' x v := by
  cases x with
  | lf l => exact RepP.move hx h.F h.S
  | agg ls => obtain ⟨cs, rfl, hr⟩ := hx; exact ⟨cs, rfl, hr.move h.F h.S⟩
  | own r ver m =>
    obtain ⟨row, h1, h2, h3⟩ := hx
    obtain ⟨row', h4, h5, h6⟩ := h.rw r row h1
    refine ⟨row', h4, by omega, fun hl hv => ?_⟩
    have hv' : row'.ver = row.ver := by omega
    obtain ⟨h7, h8, h9, _⟩ := h6 hl hv'
    have := h3 h7 (by omega)
    unfold OwnVal at this ⊢
    rw [h8, h9]
    exact this
  | ptr b gn off =>
    obtain ⟨bx, h1, h2, h3⟩ := hx
    obtain ⟨bx', h4, h5, h6⟩ := h.bx b bx h1
    refine ⟨bx', h4, by omega, fun hg => ?_⟩
    have : bx'.gen = bx.gen := by omega
    rw [h6 this]
    exact h3 (by omega)
  | eptr r ver i off =>
    obtain ⟨row, h1, h2, h3⟩ := hx
    obtain ⟨row', h4, h5, h6⟩ := h.rw r row h1
    refine ⟨row', h4, by omega, fun hl hv => ?_⟩
    have hv' : row'.ver = row.ver := by omega
    obtain ⟨h7, h8, h9, h10⟩ := h6 hl hv'
    have := h3 h7 (by omega)
    rw [h8, h9, h10]
    exact this
  | lptr fr ls =>
    obtain ⟨b, o, h1, h2, h3⟩ := hx
    refine ⟨b, o, h1, h.F _ _ h2, fun i l hl => ?_⟩
    obtain ⟨u, h4, h5⟩ := h3 i l hl
    refine ⟨u, ?_, h5.move h.F h.S⟩
    rw [← h4]
    exact World.cell?_of_block (a := ⟨_, _, none⟩) (h.S _ _ h2)
  | nil => exact hx
  | nilp => exact hx
  | any => trivial
theorem RepA.later (h : Later c g g' s s' w w') {x : AV E} {v : Value} (hx : RepA V c g s w x v) : RepA V c g' s' w' x v := by
  cases x with
  | f x => exact RepF.later h hx
  | tup xs => obtain ⟨vs, h1, h2, h3⟩ := hx; exact ⟨vs, h1, h2, fun i x hi => let ⟨u, h4, h5⟩ := h3 i x hi; ⟨u, h4, RepF.later h h5⟩⟩
  | fn f xs => obtain ⟨vs, h1, h2, h3⟩ := hx; exact ⟨vs, h1, h2, fun i x hi => let ⟨u, h4, h5⟩ := h3 i x hi; ⟨u, h4, RepF.later h h5⟩⟩
/-- Memory alone counts: of the temporaries' part of a state nothing is asked. -/
theorem RepF.sl {x : Fv E} {v : Value} (sl : Nat → AV E) (hx : RepF V c g s w x v) : RepF V c g ⟨sl, s.bx, s.rw⟩ w x v := by
  cases x <;> exact hx
theorem RepA.sl {x : AV E} {v : Value} (sl : Nat → AV E) (hx : RepA V c g s w x v) : RepA V c g ⟨sl, s.bx, s.rw⟩ w x v := by
  cases x with
  | f x => exact RepF.sl sl hx
  | tup xs => obtain ⟨vs, h1, h2, h3⟩ := hx; exact ⟨vs, h1, h2, fun i x hi => let ⟨u, h4, h5⟩ := h3 i x hi; ⟨u, h4, RepF.sl sl h5⟩⟩
  | fn f xs => obtain ⟨vs, h1, h2, h3⟩ := hx; exact ⟨vs, h1, h2, fun i x hi => let ⟨u, h4, h5⟩ := h3 i x hi; ⟨u, h4, RepF.sl sl h5⟩⟩
theorem RelG.sl (h : RelG V c g s w) (sl : Nat → AV E) : RelG V c g ⟨sl, s.bx, s.rw⟩ w :=
  ⟨h.os, h.tape, h.output, h.size, h.old, h.imm, h.zed, h.box, h.boxAt, h.boxInj, h.row, h.rowAt, h.rowInj⟩
/-- What a temporary is put to. -/
theorem Rel.put {a : Act} (hN : ∀ n, c.N ≤ n → True) (hm : RelG V c g' s' w') (hl : Later c g g' s s' w w') (hr : Rel V c g s a w) (hs : s'.sl = s.sl) {d : Option Tmp} {x : AV E} {v : Value} (hx : RepA V c g' s' w' x v)
    (hd : ∀ n, d = some n → n < c.N) : Rel V c g' ⟨putD s'.sl d x, s'.bx, s'.rw⟩ (a.put d v) w' := by
  refine ⟨hm.sl _, ?_, ?_, fun n => ?_⟩
  · cases d with
    | none => exact hr.tmps
    | some n => simpa [Act.put] using hr.tmps
  · cases d <;> exact hr.defers
  · refine RepA.sl _ ?_
    cases d with
    | none => simp only [putD]; rw [hs]; exact RepA.later hl (hr.slot n)
    | some m =>
      have hm' := hd m rfl
      by_cases hn : n = m
      · subst hn
        have : (a.put (some n) v).tmps.getD n undef = v := by
          simp [Act.put, Array.getD_eq_getD_getElem?, show n < a.tmps.size by rw [hr.tmps]; exact hm']
        rw [this]
        simp only [putD, upd_eq]
        exact hx
      · have : (a.put (some m) v).tmps.getD n undef = a.tmps.getD n undef := by
          simp [Act.put, Array.getD_eq_getD_getElem?, Array.getElem?_setIfInBounds, Ne.symm hn]
        rw [this]
        simp only [putD, upd_ne _ _ hn, hs]
        exact RepA.later hl (hr.slot n)
end
end
end Go.Tx
set_option linter.unusedVariables false
set_option linter.unusedSimpArgs false
namespace Go.Tx
open Go.RowKit

section
variable {E : Env} {V : Lv E} {c : Cx} {g g' : Gh} {s s' : St E} {w w' : World}

theorem heap_lt {w : World} {k : Nat} {o : Obj} (h : w.heap[k]? = some o) : k < w.heap.size := (Array.getElem?_eq_some_iff.1 h).1
theorem RelG.boxLt (h : RelG V c g s w) {b : Nat} {bx : Bx E} (hb : s.bx b = some bx) : g.bb b < w.heap.size := by
  obtain ⟨cs, h1, _⟩ := h.box b bx hb
  exact heap_lt h1
theorem RelG.rowLt (h : RelG V c g s w) {r : Nat} {row : Rw E} (hr : s.rw r = some row) (hl : row.live = true) {k : Nat} (hk : (g.rv r).ownBlock = some k) :
    c.w0.heap.size ≤ k ∧ k < w.heap.size ∧ ∃ cur, w.heap[k]? = some (.cells cur row.e (0, 0)) := by
  obtain ⟨cells, ho, _⟩ := h.row r row hr hl
  rcases ho.2 with ⟨h1, _⟩ | ⟨b, cap, cur, h1, h2, h3, _⟩
  · rw [h1] at hk; simp [Value.ownBlock] at hk
  · rw [h1] at hk
    simp [Value.ownBlock] at hk
    subst hk
    exact ⟨h2, heap_lt h3, cur, h3⟩
theorem RelG.FFlt (h : RelG V c g s w) {k : Nat} (hk : FF c g .lent k) : k < w.heap.size := by
  rcases hk with hk | hk
  · exact (h.zed k hk).2
  · have := (h.imm k hk).1; have := h.size; omega
/-- What is read only is none of the variables and none of the rows. -/
theorem RelG.FFbox (h : RelG V c g s w) {k b : Nat} {bx : Bx E} (hk : FF c g .lent k) (hb : s.bx b = some bx) : g.bb b ≠ k := by
  rintro rfl
  obtain ⟨h1, h2⟩ := h.boxAt b bx hb
  rcases hk with hk | hk
  · exact h2 hk
  · obtain ⟨h3, h4⟩ := h.imm _ hk
    rcases h1 with h1 | h1
    · omega
    · exact h4 h1
theorem RelG.FFrow (h : RelG V c g s w) {k r : Nat} {row : Rw E} (hk : FF c g .lent k) (hr : s.rw r = some row) (hl : row.live = true) : (g.rv r).ownBlock ≠ some k := by
  intro hk'
  have h1 := h.rowAt r row hr hl k hk'
  have h2 := h.rowLt hr hl hk'
  rcases hk with hk | hk
  · exact h1.1 hk
  · have := (h.imm _ hk).1; omega

theorem ownsRow_heap {base : Nat} {e : TypeId} {size n : Nat} {v : Value} {xs : List Value} (h : w.ownsRow base e size v n xs) (hm : ∀ k, v.ownBlock = some k → w'.heap[k]? = w.heap[k]?) : w'.ownsRow base e size v n xs := by
  obtain ⟨h1, h2⟩ := h
  refine ⟨h1, ?_⟩
  rcases h2 with h2 | ⟨g, cap, cur, rfl, hg, hh, r⟩
  · exact .inl h2
  · exact .inr ⟨g, cap, cur, rfl, hg, (hm g (by simp [Value.ownBlock])).trans hh, r⟩

/-- The world has grown; what was there is there. -/
theorem RelG.grow (h : RelG V c g s w) (hb : Below w.heap.size w w') : RelG V c g s w' ∧ Later c g g s s w w' := by
  have hF : ∀ b k, FF c g b k → w'.heap[k]? = w.heap[k]? := fun b k hk => hb.block k (h.FFlt (FF.false b k hk))
  refine ⟨⟨hb.os.trans h.os, hb.tape.trans h.tape, hb.output.trans h.output, Nat.le_trans h.size hb.size, fun k h1 h2 => (hb.block k (Nat.lt_of_lt_of_le h1 h.size)).trans (h.old k h1 h2), h.imm,
    fun k hk => ⟨(h.zed k hk).1, Nat.lt_of_lt_of_le (h.zed k hk).2 hb.size⟩, fun b bx hbx => ?_, h.boxAt, h.boxInj, fun r row hr hl => ?_, h.rowAt, h.rowInj⟩, ?_⟩
  · obtain ⟨cs, h1, h2⟩ := h.box b bx hbx
    exact ⟨cs, (hb.block _ (heap_lt h1)).trans h1, h2.move (fun _ _ h => h) hF⟩
  · obtain ⟨cells, h1, h2, h3⟩ := h.row r row hr hl
    refine ⟨cells, ownsRow_heap h1 (fun k hk => hb.block k (h.rowLt hr hl hk).2.1), h2.move (fun _ _ h => h) hF, h3⟩
  · exact ⟨fun _ h => h, fun k hk => hF .lent k hk, fun b x h => ⟨x, h, Nat.le_refl _, fun _ => rfl⟩, fun r x h => ⟨x, h, Nat.le_refl _, fun h1 _ => ⟨h1, rfl, rfl, rfl⟩⟩⟩
/-- Blocks that nobody writes any more are read only from now on. -/
theorem RelG.toZ (h : RelG V c g s w) (Zn : Nat → Prop) (h0 : ∀ k, Zn k → c.w0.heap.size ≤ k ∧ k < w.heap.size) (hb : ∀ k b bx, Zn k → s.bx b = some bx → g.bb b ≠ k)
    (hr : ∀ k r row, Zn k → s.rw r = some row → row.live = true → (g.rv r).ownBlock ≠ some k) :
    RelG V c ⟨fun k => g.Z k ∨ Zn k, g.bb, g.rv⟩ s w ∧ Later c g ⟨fun k => g.Z k ∨ Zn k, g.bb, g.rv⟩ s s w w := by
  have hF : ∀ b k, FF c g b k → FF c ⟨fun k => g.Z k ∨ Zn k, g.bb, g.rv⟩ b k := FF.ext fun k hk => .inl hk
  refine ⟨⟨h.os, h.tape, h.output, h.size, h.old, h.imm, fun k hk => ?_, fun b bx hbx => ?_, fun b bx hbx => ⟨(h.boxAt b bx hbx).1, ?_⟩, h.boxInj, fun r row hr' hl => ?_, fun r row hr' hl k hk => ⟨?_, (h.rowAt r row hr' hl k hk).2⟩, h.rowInj⟩, ?_⟩
  · rcases hk with hk | hk
    · exact h.zed k hk
    · exact h0 k hk
  · obtain ⟨cs, h1, h2⟩ := h.box b bx hbx
    exact ⟨cs, h1, h2.move hF (fun _ _ _ => rfl)⟩
  · rintro (hz | hz)
    · exact (h.boxAt b bx hbx).2 hz
    · exact hb _ b bx hz hbx rfl
  · obtain ⟨cells, h1, h2, h3⟩ := h.row r row hr' hl
    exact ⟨cells, h1, h2.move hF (fun _ _ _ => rfl), h3⟩
  · rintro (hz | hz)
    · exact (h.rowAt r row hr' hl k hk).1 hz
    · exact hr k r row hz hr' hl hk
  · exact ⟨fun k hk => .inl hk, fun _ _ => rfl, fun b x h => ⟨x, h, Nat.le_refl _, fun _ => rfl⟩, fun r x h => ⟨x, h, Nat.le_refl _, fun h1 _ => ⟨h1, rfl, rfl, rfl⟩⟩⟩

def setBB (g : Gh) (b k : Nat) : Gh := ⟨g.Z, upd g.bb b k, g.rv⟩
def setRV (g : Gh) (r : Nat) (v : Value) : Gh := ⟨g.Z, g.bb, upd g.rv r v⟩
/-- A block becomes variable 'b'. -/
theorem RelG.adoptBox (h : RelG V c g s w) (b k : Nat) (ty : TypeId) (ls : List (Lf E)) (cs : Array Value) (hk : w.heap[k]? = some (.cells cs ty (0, 0))) (hr : RepL V w (FF c g) ls cs.toList)
    (h0 : c.w0.heap.size ≤ k) (hz : ¬ g.Z k) (hb : ∀ b' bx, b' ≠ b → s.bx b' = some bx → g.bb b' ≠ k) (ho : ∀ r row, s.rw r = some row → row.live = true → (g.rv r).ownBlock ≠ some k) :
    RelG V c (setBB g b k) ⟨s.sl, upd s.bx b (some ⟨gen s b, ty, ls⟩), s.rw⟩ w ∧ Later c g (setBB g b k) s ⟨s.sl, upd s.bx b (some ⟨gen s b, ty, ls⟩), s.rw⟩ w w ∧
      RepF V c (setBB g b k) ⟨s.sl, upd s.bx b (some ⟨gen s b, ty, ls⟩), s.rw⟩ w (.ptr b (gen s b) 0) (.pointer (some ⟨k, 0, none⟩)) := by
  have hbb : ∀ b', b' ≠ b → (setBB g b k).bb b' = g.bb b' := fun b' hn => upd_ne _ _ hn
  have hbk : (setBB g b k).bb b = k := upd_eq _ _ _
  have hcase : ∀ b' bx, upd s.bx b (some ⟨gen s b, ty, ls⟩) b' = some bx → (b' = b ∧ bx = ⟨gen s b, ty, ls⟩) ∨ (b' ≠ b ∧ s.bx b' = some bx) := by
    intro b' bx hx
    by_cases hn : b' = b
    · subst hn; rw [upd_eq] at hx; exact .inl ⟨rfl, by injection hx with hx; exact hx.symm⟩
    · rw [upd_ne _ _ hn] at hx; exact .inr ⟨hn, hx⟩
  refine ⟨⟨h.os, h.tape, h.output, h.size, h.old, h.imm, h.zed, fun b' bx hx => ?_, fun b' bx hx => ?_, fun b1 b2 x1 x2 h1 h2 he => ?_, h.row, fun r row hr' hl k' hk' => ⟨(h.rowAt r row hr' hl k' hk').1, fun b' bx hx => ?_⟩, h.rowInj⟩, ⟨fun _ h => h, fun _ _ => rfl, fun b' x hx => ?_, fun r x h => ⟨x, h, Nat.le_refl _, fun h1 _ => ⟨h1, rfl, rfl, rfl⟩⟩⟩, ?_⟩
  · rcases hcase b' bx hx with ⟨rfl, rfl⟩ | ⟨hn, hx⟩
    · exact ⟨cs, by rw [hbk]; exact hk, hr⟩
    · obtain ⟨cs', h1, h2⟩ := h.box b' bx hx
      exact ⟨cs', by rw [hbb b' hn]; exact h1, h2⟩
  · rcases hcase b' bx hx with ⟨rfl, rfl⟩ | ⟨hn, hx⟩
    · rw [hbk]; exact ⟨.inl h0, hz⟩
    · rw [hbb b' hn]; exact h.boxAt b' bx hx
  · rcases hcase b1 x1 h1 with ⟨e1, _⟩ | ⟨hn1, h3⟩ <;> rcases hcase b2 x2 h2 with ⟨e2, _⟩ | ⟨hn2, h4⟩
    · rw [e1, e2]
    · rw [e1, hbk, hbb b2 hn2] at he; exact absurd he.symm (hb b2 x2 hn2 h4)
    · rw [e2, hbk, hbb b1 hn1] at he; exact absurd he (hb b1 x1 hn1 h3)
    · rw [hbb b1 hn1, hbb b2 hn2] at he; exact h.boxInj b1 b2 x1 x2 h3 h4 he
  · rcases hcase b' bx hx with ⟨rfl, rfl⟩ | ⟨hn, hx⟩
    · rw [hbk]; rintro rfl; exact ho r row hr' hl hk'
    · rw [hbb b' hn]; exact (h.rowAt r row hr' hl k' hk').2 b' bx hx
  · by_cases hn : b' = b
    · subst hn
      refine ⟨_, upd_eq _ _ _, ?_, fun he => ?_⟩
      · simp only [gen, hx]; omega
      · simp only [gen, hx] at he; omega
    · exact ⟨x, by rw [show (⟨s.sl, upd s.bx b (some ⟨gen s b, ty, ls⟩), s.rw⟩ : St E).bx b' = upd s.bx b (some ⟨gen s b, ty, ls⟩) b' from rfl, upd_ne _ _ hn]; exact hx, Nat.le_refl _, fun _ => hbb b' hn⟩
  · exact ⟨_, upd_eq _ _ _, Nat.le_refl _, fun _ => by rw [hbk]⟩
/-- A row's value becomes row 'r'. -/
theorem RelG.adoptRow (h : RelG V c g s w) (r : Nat) (v : Value) (e : TypeId) (t : Ty) (xs : List (El E t)) (cells : List Value) (hs : 0 < tsz V t) (hown : w.ownsRow c.w0.heap.size e (tsz V t) v xs.length cells)
    (hel : ElRep V w (FF c g) t xs cells) (hz : ∀ k, v.ownBlock = some k → ¬ g.Z k) (hb : ∀ k b bx, v.ownBlock = some k → s.bx b = some bx → g.bb b ≠ k)
    (ho : ∀ k r' row, v.ownBlock = some k → r' ≠ r → s.rw r' = some row → row.live = true → (g.rv r').ownBlock ≠ some k) :
    RelG V c (setRV g r v) ⟨s.sl, s.bx, upd s.rw r (some ⟨true, ver s r, e, t, xs⟩)⟩ w ∧ Later c g (setRV g r v) s ⟨s.sl, s.bx, upd s.rw r (some ⟨true, ver s r, e, t, xs⟩)⟩ w w ∧
      RepF V c (setRV g r v) ⟨s.sl, s.bx, upd s.rw r (some ⟨true, ver s r, e, t, xs⟩)⟩ w (.own r (ver s r) none) v := by
  have hbb : ∀ b', b' ≠ r → (setRV g r v).rv b' = g.rv b' := fun b' hn => upd_ne _ _ hn
  have hbk : (setRV g r v).rv r = v := upd_eq _ _ _
  have hcase : ∀ b' bx, upd s.rw r (some ⟨true, ver s r, e, t, xs⟩) b' = some bx → (b' = r ∧ bx = ⟨true, ver s r, e, t, xs⟩) ∨ (b' ≠ r ∧ s.rw b' = some bx) := by
    intro b' bx hx
    by_cases hn : b' = r
    · subst hn; rw [upd_eq] at hx; exact .inl ⟨rfl, by injection hx with hx; exact hx.symm⟩
    · rw [upd_ne _ _ hn] at hx; exact .inr ⟨hn, hx⟩
  refine ⟨⟨h.os, h.tape, h.output, h.size, h.old, h.imm, h.zed, h.box, h.boxAt, h.boxInj, fun r' row hx hl => ?_, fun r' row hx hl k' hk' => ?_, fun r1 r2 x1 x2 h1 h2 l1 l2 k' k1 k2 => ?_⟩, ⟨fun _ h => h, fun _ _ => rfl, fun b x h => ⟨x, h, Nat.le_refl _, fun _ => rfl⟩, fun b' x hx => ?_⟩, ?_⟩
  · rcases hcase r' row hx with ⟨rfl, rfl⟩ | ⟨hn, hx⟩
    · exact ⟨cells, by rw [hbk]; exact hown, hel, hs⟩
    · obtain ⟨cs', h1, h2, h3⟩ := h.row r' row hx hl
      exact ⟨cs', by rw [hbb r' hn]; exact h1, h2, h3⟩
  · rcases hcase r' row hx with ⟨rfl, rfl⟩ | ⟨hn, hx⟩
    · rw [hbk] at hk'; exact ⟨hz k' hk', fun b bx hb' => hb k' b bx hk' hb'⟩
    · rw [hbb r' hn] at hk'; exact h.rowAt r' row hx hl k' hk'
  · rcases hcase r1 x1 h1 with ⟨e1, _⟩ | ⟨hn1, h3⟩ <;> rcases hcase r2 x2 h2 with ⟨e2, _⟩ | ⟨hn2, h4⟩
    · rw [e1, e2]
    · rw [e1, hbk] at k1; rw [hbb r2 hn2] at k2; exact absurd k2 (ho k' r2 x2 k1 hn2 h4 l2)
    · rw [e2, hbk] at k2; rw [hbb r1 hn1] at k1; exact absurd k1 (ho k' r1 x1 k2 hn1 h3 l1)
    · rw [hbb r1 hn1] at k1; rw [hbb r2 hn2] at k2; exact h.rowInj r1 r2 x1 x2 h3 h4 l1 l2 k' k1 k2
  · by_cases hn : b' = r
    · subst hn
      refine ⟨_, upd_eq _ _ _, ?_, fun _ he => ?_⟩
      · simp only [ver, hx]; omega
      · simp only [ver, hx] at he; omega
    · exact ⟨x, by rw [show (⟨s.sl, s.bx, upd s.rw r (some ⟨true, ver s r, e, t, xs⟩)⟩ : St E).rw b' = upd s.rw r (some ⟨true, ver s r, e, t, xs⟩) b' from rfl, upd_ne _ _ hn]; exact hx, Nat.le_refl _, fun h1 _ => ⟨h1, hbb b' hn, rfl, rfl⟩⟩
  · exact ⟨_, upd_eq _ _ _, Nat.le_refl _, fun _ _ => hbk.symm⟩
/-- A variable's cells are written. -/
theorem RelG.storeBox (h : RelG V c g s w) {b gn : Nat} {ty : TypeId} {old ls : List (Lf E)} (hb : s.bx b = some ⟨gn, ty, old⟩) (cs : Array Value) (hr : RepL V w (FF c g) ls cs.toList) :
    RelG V c g ⟨s.sl, upd s.bx b (some ⟨gn, ty, ls⟩), s.rw⟩ (w.setRow (g.bb b) cs) ∧ Later c g g s ⟨s.sl, upd s.bx b (some ⟨gn, ty, ls⟩), s.rw⟩ w (w.setRow (g.bb b) cs) := by
  obtain ⟨cs0, h1, _⟩ := h.box b _ hb
  have hF : ∀ b' k, FF c g b' k → (w.setRow (g.bb b) cs).heap[k]? = w.heap[k]? := fun b' k hk => setRow_other _ _ _ _ (fun e => h.FFbox (FF.false b' k hk) hb e.symm)
  have hsz : (w.setRow (g.bb b) cs).heap.size = w.heap.size := setRow_size _ _ _
  have hcase : ∀ b' bx, upd s.bx b (some ⟨gn, ty, ls⟩) b' = some bx → (b' = b ∧ bx = ⟨gn, ty, ls⟩) ∨ (b' ≠ b ∧ s.bx b' = some bx) := by
    intro b' bx hx
    by_cases hn : b' = b
    · subst hn; rw [upd_eq] at hx; exact .inl ⟨rfl, by injection hx with hx; exact hx.symm⟩
    · rw [upd_ne _ _ hn] at hx; exact .inr ⟨hn, hx⟩
  have hat : ∀ b' bx, upd s.bx b (some ⟨gn, ty, ls⟩) b' = some bx → ∃ bx0, s.bx b' = some bx0 := by
    intro b' bx hx
    rcases hcase b' bx hx with ⟨e, _⟩ | ⟨_, hx⟩
    · exact ⟨_, by rw [e]; exact hb⟩
    · exact ⟨_, hx⟩
  refine ⟨⟨h.os, h.tape, h.output, by rw [hsz]; exact h.size, fun k h2 h3 => ?_, h.imm, fun k hk => by rw [hsz]; exact h.zed k hk, fun b' bx hx => ?_, fun b' bx hx => ?_, fun b1 b2 x1 x2 h1 h2 he => ?_, fun r row hr' hl => ?_, fun r row hr' hl k' hk' => ⟨(h.rowAt r row hr' hl k' hk').1, fun b' bx hx => ?_⟩, h.rowInj⟩,
    ⟨fun _ h => h, fun k hk => hF .lent k hk, fun b' x hx => ?_, fun r x h => ⟨x, h, Nat.le_refl _, fun h1 _ => ⟨h1, rfl, rfl, rfl⟩⟩⟩⟩
  · rw [setRow_other _ _ _ _ ?_]
    · exact h.old k h2 h3
    · rintro rfl
      rcases (h.boxAt b _ hb).1 with h4 | h4
      · omega
      · exact h3 h4
  · rcases hcase b' bx hx with ⟨rfl, rfl⟩ | ⟨hn, hx⟩
    · exact ⟨cs, setRow_heap _ _ _ _ _ _ h1, hr.move (fun _ _ h => h) hF⟩
    · obtain ⟨cs', h2, h3⟩ := h.box b' bx hx
      refine ⟨cs', ?_, h3.move (fun _ _ h => h) hF⟩
      rw [setRow_other _ _ _ _ (fun e => hn (h.boxInj _ _ _ _ hx hb e))]
      exact h2
  · obtain ⟨bx0, h0⟩ := hat b' bx hx
    exact h.boxAt b' bx0 h0
  · obtain ⟨y1, h3⟩ := hat b1 x1 h1
    obtain ⟨y2, h4⟩ := hat b2 x2 h2
    exact h.boxInj b1 b2 y1 y2 h3 h4 he
  · obtain ⟨cells, h2, h3, h4⟩ := h.row r row hr' hl
    exact ⟨cells, ownsRow_heap h2 (fun k hk => setRow_other _ _ _ _ (fun e => (h.rowAt r row hr' hl k hk).2 b _ hb e.symm)), h3.move (fun _ _ h => h) hF, h4⟩
  · obtain ⟨bx0, h0⟩ := hat b' bx hx
    exact (h.rowAt r row hr' hl k' hk').2 b' bx0 h0
  · by_cases hn : b' = b
    · subst hn
      rw [hb] at hx
      injection hx with hx
      subst hx
      exact ⟨_, upd_eq _ _ _, Nat.le_refl _, fun _ => rfl⟩
    · exact ⟨x, by rw [show (⟨s.sl, upd s.bx b (some ⟨gn, ty, ls⟩), s.rw⟩ : St E).bx b' = upd s.bx b (some ⟨gn, ty, ls⟩) b' from rfl, upd_ne _ _ hn]; exact hx, Nat.le_refl _, fun _ => rfl⟩
/-- One of our rows is another one now: its block alone, or a new one. 'nv': does its value count as a new one? -/
theorem RelG.turnRow (h : RelG V c g s w) {r : Nat} {row row' : Rw E} (hr : s.rw r = some row) (hl : row.live = true) (hl' : row'.live = true) (v : Value) (hw : w.grownBy w' (g.rv r).ownBlock) (cells : List Value)
    (hown : w'.ownsRow c.w0.heap.size row'.e (tsz V row'.t) v row'.xs.length cells) (hel : ElRep V w (FF c g) row'.t row'.xs cells) (hs : 0 < tsz V row'.t) (hv : v.ownBlock = (g.rv r).ownBlock ∨ ∀ k, v.ownBlock = some k → w.heap.size ≤ k)
    (hver : row.ver < row'.ver ∨ (row'.ver = row.ver ∧ v = g.rv r ∧ row'.xs.length = row.xs.length ∧ row'.t = row.t)) :
    RelG V c (setRV g r v) ⟨s.sl, s.bx, upd s.rw r (some row')⟩ w' ∧ Later c g (setRV g r v) s ⟨s.sl, s.bx, upd s.rw r (some row')⟩ w w' ∧ RepF V c (setRV g r v) ⟨s.sl, s.bx, upd s.rw r (some row')⟩ w' (.own r row'.ver none) v := by
  have hF : ∀ b' k, FF c g b' k → w'.heap[k]? = w.heap[k]? := fun b' k hk => hw.block k (h.FFlt (FF.false b' k hk)) (fun e => h.FFrow (FF.false b' k hk) hr hl e.symm)
  have hbb : ∀ b', b' ≠ r → (setRV g r v).rv b' = g.rv b' := fun b' hn => upd_ne _ _ hn
  have hbk : (setRV g r v).rv r = v := upd_eq _ _ _
  have hcase : ∀ b' bx, upd s.rw r (some row') b' = some bx → (b' = r ∧ bx = row') ∨ (b' ≠ r ∧ s.rw b' = some bx) := by
    intro b' bx hx
    by_cases hn : b' = r
    · subst hn; rw [upd_eq] at hx; exact .inl ⟨rfl, by injection hx with hx; exact hx.symm⟩
    · rw [upd_ne _ _ hn] at hx; exact .inr ⟨hn, hx⟩
  -- the new block is nobody's
  have hfar : ∀ k, v.ownBlock = some k → ¬ g.Z k ∧ (∀ b bx, s.bx b = some bx → g.bb b ≠ k) ∧ ∀ r2 x2, r2 ≠ r → s.rw r2 = some x2 → x2.live = true → (g.rv r2).ownBlock ≠ some k := by
    intro k hk
    rcases hv with hv | hv
    · rw [hv] at hk
      exact ⟨(h.rowAt r row hr hl k hk).1, (h.rowAt r row hr hl k hk).2, fun r2 x2 hn h2 l2 hk2 => hn (h.rowInj r2 r x2 row h2 hr l2 hl k hk2 hk)⟩
    · have hk' := hv k hk
      exact ⟨fun hz => by have := (h.zed k hz).2; omega, fun b bx hb e => by have := h.boxLt hb; omega, fun r2 x2 hn h2 l2 hk2 => by have := (h.rowLt h2 l2 hk2).2.1; omega⟩
  refine ⟨⟨hw.os.trans h.os, hw.tape.trans h.tape, hw.output.trans h.output, Nat.le_trans h.size hw.size, fun k h2 h3 => ?_, h.imm, fun k hk => ⟨(h.zed k hk).1, Nat.lt_of_lt_of_le (h.zed k hk).2 hw.size⟩, fun b bx hb => ?_, h.boxAt, h.boxInj, fun r' x hx l => ?_, fun r' x hx l k' hk' => ?_, fun r1 r2 x1 x2 h1 h2 l1 l2 k' k1 k2 => ?_⟩,
    ⟨fun _ h => h, fun k hk => hF .lent k hk, fun b x h => ⟨x, h, Nat.le_refl _, fun _ => rfl⟩, fun b' x hx => ?_⟩, ?_⟩
  · rw [hw.block k (Nat.lt_of_lt_of_le h2 h.size) (fun e => by have := (h.rowLt hr hl e.symm).1; omega)]
    exact h.old k h2 h3
  · obtain ⟨cs, h1, h2⟩ := h.box b bx hb
    refine ⟨cs, ?_, h2.move (fun _ _ h => h) hF⟩
    rw [show (setRV g r v).bb b = g.bb b from rfl, hw.block _ (heap_lt h1) (fun e => (h.rowAt r row hr hl _ e.symm).2 b bx hb rfl)]
    exact h1
  · rcases hcase r' x hx with ⟨rfl, rfl⟩ | ⟨hn, hx⟩
    · exact ⟨cells, by rw [hbk]; exact hown, hel.move (fun _ _ h => h) hF, hs⟩
    · obtain ⟨cs', h1, h2, h3⟩ := h.row r' x hx l
      refine ⟨cs', by rw [hbb r' hn]; exact ownsRow_heap h1 (fun k hk => hw.block k (h.rowLt hx l hk).2.1 (fun e => hn (h.rowInj r' r x row hx hr l hl k hk e.symm))), h2.move (fun _ _ h => h) hF, h3⟩
  · rcases hcase r' x hx with ⟨rfl, rfl⟩ | ⟨hn, hx⟩
    · rw [hbk] at hk'; exact ⟨(hfar k' hk').1, (hfar k' hk').2.1⟩
    · rw [hbb r' hn] at hk'; exact h.rowAt r' x hx l k' hk'
  · rcases hcase r1 x1 h1 with ⟨e1, _⟩ | ⟨hn1, h3⟩ <;> rcases hcase r2 x2 h2 with ⟨e2, _⟩ | ⟨hn2, h4⟩
    · rw [e1, e2]
    · rw [e1, hbk] at k1; rw [hbb r2 hn2] at k2; exact absurd k2 ((hfar k' k1).2.2 r2 x2 hn2 h4 l2)
    · rw [e2, hbk] at k2; rw [hbb r1 hn1] at k1; exact absurd k1 ((hfar k' k2).2.2 r1 x1 hn1 h3 l1)
    · rw [hbb r1 hn1] at k1; rw [hbb r2 hn2] at k2; exact h.rowInj r1 r2 x1 x2 h3 h4 l1 l2 k' k1 k2
  · by_cases hn : b' = r
    · subst hn
      rw [hr] at hx
      injection hx with hx
      subst hx
      refine ⟨_, upd_eq _ _ _, ?_, fun _ he => ?_⟩
      · rcases hver with h1 | h1 <;> omega
      · rcases hver with h1 | ⟨_, h2, h3, h4⟩
        · omega
        · exact ⟨hl, hbk.trans h2, h3, h4⟩
    · exact ⟨x, by rw [show (⟨s.sl, s.bx, upd s.rw r (some row')⟩ : St E).rw b' = upd s.rw r (some row') b' from rfl, upd_ne _ _ hn]; exact hx, Nat.le_refl _, fun h1 _ => ⟨h1, hbb b' hn, rfl, rfl⟩⟩
  · exact ⟨_, upd_eq _ _ _, Nat.le_refl _, fun _ _ => hbk.symm⟩
/-- A row is sealed: it is read only from now on. -/
theorem RelG.sealRow (h : RelG V c g s w) (hV : LvOk V) {r : Nat} {row : Rw E} (hr : s.rw r = some row) (hl : row.live = true) :
    ∃ g', RelG V c g' ⟨s.sl, s.bx, upd s.rw r (some ⟨false, row.ver + 1, row.e, row.t, row.xs⟩)⟩ w ∧ Later c g g' s ⟨s.sl, s.bx, upd s.rw r (some ⟨false, row.ver + 1, row.e, row.t, row.xs⟩)⟩ w w ∧ RepP V w (FF c g') (.row .made row.t row.xs) (g.rv r) := by
  have hcase : ∀ b' bx, upd s.rw r (some ⟨false, row.ver + 1, row.e, row.t, row.xs⟩) b' = some bx → bx.live = true → b' ≠ r ∧ s.rw b' = some bx := by
    intro b' bx hx hl
    by_cases hn : b' = r
    · subst hn; rw [upd_eq] at hx; injection hx with hx; subst hx; cases hl
    · rw [upd_ne _ _ hn] at hx; exact ⟨hn, hx⟩
  have h1 : RelG V c g ⟨s.sl, s.bx, upd s.rw r (some ⟨false, row.ver + 1, row.e, row.t, row.xs⟩)⟩ w ∧ Later c g g s ⟨s.sl, s.bx, upd s.rw r (some ⟨false, row.ver + 1, row.e, row.t, row.xs⟩)⟩ w w := by
    refine ⟨⟨h.os, h.tape, h.output, h.size, h.old, h.imm, h.zed, h.box, h.boxAt, h.boxInj, fun r' x hx l => ?_, fun r' x hx l k' hk' => ?_, fun r1 r2 x1 x2 h1 h2 l1 l2 k' k1 k2 => ?_⟩, ⟨fun _ h => h, fun _ _ => rfl, fun b x h => ⟨x, h, Nat.le_refl _, fun _ => rfl⟩, fun b' x hx => ?_⟩⟩
    · exact h.row r' x (hcase r' x hx l).2 l
    · exact h.rowAt r' x (hcase r' x hx l).2 l k' hk'
    · exact h.rowInj r1 r2 x1 x2 (hcase r1 x1 h1 l1).2 (hcase r2 x2 h2 l2).2 l1 l2 k' k1 k2
    · by_cases hn : b' = r
      · subst hn
        rw [hr] at hx
        injection hx with hx
        subst hx
        exact ⟨_, upd_eq _ _ _, Nat.le_succ _, fun hl => by cases hl⟩
      · exact ⟨x, by rw [show (⟨s.sl, s.bx, upd s.rw r (some ⟨false, row.ver + 1, row.e, row.t, row.xs⟩)⟩ : St E).rw b' = upd s.rw r (some ⟨false, row.ver + 1, row.e, row.t, row.xs⟩) b' from rfl, upd_ne _ _ hn]; exact hx, Nat.le_refl _, fun h1 _ => ⟨h1, rfl, rfl, rfl⟩⟩
  obtain ⟨h2, h3⟩ := h1
  obtain ⟨h4, h5⟩ := h2.toZ (fun k => (g.rv r).ownBlock = some k) (fun k hk => ⟨(h.rowLt hr hl hk).1, (h.rowLt hr hl hk).2.1⟩) (fun k b bx hk hb => (h.rowAt r row hr hl k hk).2 b bx hb)
    (fun k r' x hk hx l e => (hcase r' x hx l).1 (h.rowInj r' r x row (hcase r' x hx l).2 hr l hl k e hk))
  refine ⟨_, h4, ⟨h5.Z, fun _ _ => rfl, fun b x hx => ?_, fun r' x hx => ?_⟩, ?_⟩
  · obtain ⟨x1, a1, a2, a3⟩ := h3.bx b x hx
    obtain ⟨x2, b1, b2, b3⟩ := h5.bx b x1 a1
    exact ⟨x2, b1, by omega, fun e => rfl⟩
  · obtain ⟨x1, a1, a2, a3⟩ := h3.rw r' x hx
    obtain ⟨x2, b1, b2, b3⟩ := h5.rw r' x1 a1
    refine ⟨x2, b1, by omega, fun hl' e => ?_⟩
    obtain ⟨c1, c2, c3, c4⟩ := b3 hl' (by omega)
    obtain ⟨d1, d2, d3, d4⟩ := a3 c1 (by omega)
    exact ⟨d1, rfl, c3.trans d3, c4.trans d4⟩
  · obtain ⟨cells, ho, hel, hs⟩ := h.row r row hr hl
    have hZ : ∀ b k, FF c g b k → FF c ⟨fun k => g.Z k ∨ (g.rv r).ownBlock = some k, g.bb, g.rv⟩ b k := FF.ext fun k hk => .inl hk
    rcases ho.2 with ⟨h1, h2⟩ | ⟨b, cap, cur, h1, h2, hh, h6, h7, h8, h9⟩
    · rw [h1]
      have : row.xs = [] := List.eq_nil_of_length_eq_zero h2
      rw [this]
      exact .nil
    · have hcell : ∀ q u, cells[q]? = some u → w.cell? ⟨b, 0 + q, none⟩ = some u := by
        intro q u hq
        rw [Nat.zero_add, cell_of_row w b q cur row.e (0, 0) hh, ← Array.getElem?_toList]
        rw [← h9] at hq
        rw [List.getElem?_take] at hq
        split at hq
        · exact hq
        · cases hq
      have key : ∀ v, v = Value.slice (some ⟨b, 0, none⟩) row.xs.length cap → RepP V w (FF c ⟨fun k => g.Z k ∨ (g.rv r).ownBlock = some k, g.bb, g.rv⟩) (.row .made row.t row.xs) v := by
       intro v hv
       subst hv
       refine .row (fun j i => (cells[j * tsz V row.t + i]?).getD undef) h6 (Nat.le_trans h6 h7) (Or.inr (by rw [h1]; rfl)) (fun j x i l hj hi => ?_) (fun j x i l hj hi => ?_)
       · obtain ⟨u, h10, h11⟩ := hel j x i l hj hi
         rw [h10]
         exact hcell _ _ h10
       · obtain ⟨u, h10, h11⟩ := hel j x i l hj hi
         rw [h10]
         exact h11.move hZ (fun _ _ _ => rfl)
      exact key _ h1
end
end Go.Tx
set_option linter.unusedVariables false
set_option linter.unusedSimpArgs false
namespace Go.Tx
open Go.RowKit

theorem mnK_eq (k : IntKind) : mnK k = k.min := by cases k <;> decide
theorem mxK_eq (k : IntKind) : mxK k = k.max := by cases k <;> decide
theorem lim_wrap (k : IntKind) (n : Int) : lim k (k.wrap n) := by
  have := wrap_within k n
  exact ⟨by rw [mnK_eq]; exact this.1, by rw [mxK_eq]; exact this.2⟩
theorem wrap_lim {k : IntKind} {n : Int} (h : lim k n) : k.wrap n = n := by
  obtain ⟨h1, h2⟩ := h
  cases k <;> simp [mnK, mxK] at h1 h2 <;> simp [IntKind.wrap, IntKind.bits, IntKind.signed] <;> omega
theorem wr_eq (k : IntKind) (n : Int) : wr k n = k.wrap n := by
  cases k <;> simp [wr, wrap64, wrap32, IntKind.wrap, IntKind.bits, IntKind.signed] <;> omega
theorem fits_lim {k : IntKind} {n : Int} {lo hi : Option Int} (h : fits k lo hi = true) (hb : inB lo hi n) : lim k n := by
  unfold fits at h
  split at h
  · simp only [Bool.and_eq_true, decide_eq_true_eq] at h
    have h1 := hb.1 _ rfl
    have h2 := hb.2 _ rfl
    exact ⟨by omega, by omega⟩
  · cases h
section
variable {E : Env} {V : Lv E} {w : World} {F : Fr → Nat → Prop} {P : Program}
theorem wrL_rep {k : IntKind} {n : Int} {lo hi : Option Int} (hb : inB lo hi n) : RepP V w F (wrL k n lo hi) (.int k (k.wrap n)) := by
  unfold wrL
  split
  · rename_i h
    have := fits_lim h hb
    rw [wrap_lim this]
    exact .int this hb
  · split
    · have : IntKind.u8.wrap n = n % 256 := by simp [IntKind.wrap, IntKind.bits, IntKind.signed]
      rw [this]
      refine .int ?_ ⟨?_, ?_⟩
      · rw [← this]; exact lim_wrap _ _
      · rintro a ⟨⟩; omega
      · rintro a ⟨⟩; omega
    · have : IntKind.u32.wrap n = n % 4294967296 := by simp [IntKind.wrap, IntKind.bits, IntKind.signed]
      rw [this]
      refine .int ?_ ⟨?_, ?_⟩
      · rw [← this]; exact lim_wrap _ _
      · rintro a ⟨⟩; omega
      · rintro a ⟨⟩; omega
    · rw [wr_eq]
      exact .int (lim_wrap _ _) ⟨nofun, nofun⟩
theorem wrL_rep' {k : IntKind} {n m : Int} {lo hi : Option Int} (hb : inB lo hi n) (h : m = k.wrap n) : RepP V w F (wrL k n lo hi) (.int k m) := h ▸ wrL_rep hb
theorem mnI_le (a b : Int) : mnI a b ≤ a ∧ mnI a b ≤ b := by
  unfold mnI
  by_cases h : a ≤ b <;> simp [h] <;> omega
theorem mxI_ge (a b : Int) : a ≤ mxI a b ∧ b ≤ mxI a b := by
  unfold mxI
  by_cases h : a ≤ b <;> simp [h] <;> omega
theorem inB_none (n : Int) : inB none none n := ⟨nofun, nofun⟩
theorem ivl_in {f : Int → Int → Int} {x y : Int} {xl xh yl yh : Option Int} (hx : inB xl xh x) (hy : inB yl yh y)
    (hf : ∀ a b c d, a ≤ x → x ≤ b → c ≤ y → y ≤ d → mn4 (f a c) (f a d) (f b c) (f b d) ≤ f x y ∧ f x y ≤ mx4 (f a c) (f a d) (f b c) (f b d)) : inB (ivl f xl xh yl yh).1 (ivl f xl xh yl yh).2 (f x y) := by
  unfold ivl
  split
  · rename_i a b c d
    have := hf a b c d (hx.1 _ rfl) (hx.2 _ rfl) (hy.1 _ rfl) (hy.2 _ rfl)
    exact ⟨by rintro _ ⟨⟩; exact this.1, by rintro _ ⟨⟩; exact this.2⟩
  · exact inB_none _
theorem mn4_le (a b c d : Int) : mn4 a b c d ≤ a ∧ mn4 a b c d ≤ b ∧ mn4 a b c d ≤ c ∧ mn4 a b c d ≤ d := by
  have h1 := mnI_le a b
  have h2 := mnI_le c d
  have h3 := mnI_le (mnI a b) (mnI c d)
  unfold mn4
  omega
theorem mx4_ge (a b c d : Int) : a ≤ mx4 a b c d ∧ b ≤ mx4 a b c d ∧ c ≤ mx4 a b c d ∧ d ≤ mx4 a b c d := by
  have h1 := mxI_ge a b
  have h2 := mxI_ge c d
  have h3 := mxI_ge (mxI a b) (mxI c d)
  unfold mx4
  omega
theorem ivl_add {x y : Int} {xl xh yl yh : Option Int} (hx : inB xl xh x) (hy : inB yl yh y) : inB (ivl (· + ·) xl xh yl yh).1 (ivl (· + ·) xl xh yl yh).2 (x + y) := by
  refine ivl_in hx hy fun a b c d h1 h2 h3 h4 => ?_
  have := mn4_le (a + c) (a + d) (b + c) (b + d)
  have := mx4_ge (a + c) (a + d) (b + c) (b + d)
  exact ⟨by omega, by omega⟩
theorem ivl_sub {x y : Int} {xl xh yl yh : Option Int} (hx : inB xl xh x) (hy : inB yl yh y) : inB (ivl (· - ·) xl xh yl yh).1 (ivl (· - ·) xl xh yl yh).2 (x - y) := by
  refine ivl_in hx hy fun a b c d h1 h2 h3 h4 => ?_
  have := mn4_le (a - c) (a - d) (b - c) (b - d)
  have := mx4_ge (a - c) (a - d) (b - c) (b - d)
  exact ⟨by omega, by omega⟩
theorem single_eq {lo hi : Option Int} {x : Int} (h : single lo hi = true) (hb : inB lo hi x) : lo = some x ∧ hi = some x := by
  unfold single at h
  split at h
  · have h := of_decide_eq_true h
    subst h
    have h1 := hb.1 _ rfl
    have h2 := hb.2 _ rfl
    exact ⟨by congr 1; omega, by congr 1; omega⟩
  · cases h
theorem ivl_mul {x y : Int} {xl xh yl yh : Option Int} (hx : inB xl xh x) (hy : inB yl yh y) (hs : (single xl xh || single yl yh) = true) : inB (ivl (· * ·) xl xh yl yh).1 (ivl (· * ·) xl xh yl yh).2 (x * y) := by
  rcases Bool.or_eq_true_iff.1 hs with hs | hs
  · obtain ⟨rfl, rfl⟩ := single_eq hs hx
    unfold ivl
    split
    · rename_i a b c d h1 h2
      cases h1; cases h2
      have h3 := hy.1 _ rfl
      have h4 := hy.2 _ rfl
      have := mn4_le (x * c) (x * d) (x * c) (x * d)
      have := mx4_ge (x * c) (x * d) (x * c) (x * d)
      rcases Int.le_total 0 x with h0 | h0
      · have h5 := Int.mul_le_mul_of_nonneg_left h3 h0
        have h6 := Int.mul_le_mul_of_nonneg_left h4 h0
        exact ⟨by rintro _ ⟨⟩; simp only []; omega, by rintro _ ⟨⟩; simp only []; omega⟩
      · have h5 := Int.mul_le_mul_of_nonpos_left h0 h3
        have h6 := Int.mul_le_mul_of_nonpos_left h0 h4
        exact ⟨by rintro _ ⟨⟩; simp only []; omega, by rintro _ ⟨⟩; simp only []; omega⟩
    · exact inB_none _
  · obtain ⟨rfl, rfl⟩ := single_eq hs hy
    unfold ivl
    split
    · rename_i a b c d h1 h2
      cases h1; cases h2
      have h3 := hx.1 _ rfl
      have h4 := hx.2 _ rfl
      have := mn4_le (a * y) (a * y) (b * y) (b * y)
      have := mx4_ge (a * y) (a * y) (b * y) (b * y)
      rcases Int.le_total 0 y with h0 | h0
      · have h5 := Int.mul_le_mul_of_nonneg_right h3 h0
        have h6 := Int.mul_le_mul_of_nonneg_right h4 h0
        exact ⟨by rintro _ ⟨⟩; simp only []; omega, by rintro _ ⟨⟩; simp only []; omega⟩
      · have h5 := Int.mul_le_mul_of_nonpos_right h3 h0
        have h6 := Int.mul_le_mul_of_nonpos_right h4 h0
        exact ⟨by rintro _ ⟨⟩; simp only []; omega, by rintro _ ⟨⟩; simp only []; omega⟩
    · exact inB_none _
theorem geO_le {a : Int} {o : Option Int} {x : Int} (h : geO a o = true) (hx : ∀ b, o = some b → b ≤ x) : a ≤ x := by
  cases o with
  | none => cases h
  | some b => have := of_decide_eq_true h; have := hx b rfl; omega
theorem leO_le {a : Int} {o : Option Int} {x : Int} (h : leO a o = true) (hx : ∀ b, o = some b → x ≤ b) : x ≤ a := by
  cases o with
  | none => cases h
  | some b => have := of_decide_eq_true h; have := hx b rfl; omega
theorem Ob_out {p q : Prop} (h : Ob p q) : p ∧ q := by unfold Ob at h; exact h
theorem emod_le {x : Int} (y : Int) (hx : 0 ≤ x) : x % y ≤ x := by
  have key : ∀ y : Int, 0 < y → x % y ≤ x := fun y hy => by
    have h1 := Int.mul_ediv_add_emod x y
    have h2 := Int.mul_nonneg (Int.le_of_lt hy) (Int.ediv_nonneg hx (Int.le_of_lt hy))
    omega
  rcases Int.lt_trichotomy y 0 with h | h | h
  · rw [← Int.emod_neg]; exact key _ (by omega)
  · subst h; simp
  · exact key _ h
theorem lim_tmod {k : IntKind} {x y : Int} (hx : lim k x) : lim k (x.tmod y) := by
  obtain ⟨h1, h2⟩ := hx
  have h0 : mnK k ≤ 0 ∧ 0 ≤ mxK k := by cases k <;> decide
  rcases Int.le_total 0 x with h | h
  · have h3 := Int.tmod_nonneg y h
    have h4 : x.tmod y ≤ x := by
      rw [Int.tmod_eq_emod_of_nonneg h]
      exact emod_le y h
    exact ⟨by omega, by omega⟩
  · have h3 : x.tmod y = -((-x).tmod y) := by rw [Int.neg_tmod, Int.neg_neg]
    have h5 := Int.tmod_nonneg y (show 0 ≤ -x by omega)
    have h4 : (-x).tmod y ≤ -x := by
      rw [Int.tmod_eq_emod_of_nonneg (by omega)]
      exact emod_le y (by omega)
    rw [h3]
    exact ⟨by omega, by omega⟩
theorem run_intBits (op : BinOp) (k : IntKind) (x y : Int) (h : op = .and ∨ op = .or ∨ op = .xor ∨ op = .andNot) : (Op.intBits op k x y).run P w = .ok (.int k (bits op k x y)) w := by
  rcases h with rfl | rfl | rfl | rfl <;> simp [Op.intBits, bits]
theorem arith_sound {op : BinOp} {k : IntKind} {x y : Int} {xl xh yl yh : Option Int} {K : Lf E → Prop} (h : arith op k x xl xh y yl yh K) (hx : lim k x) (hy : lim k y) (bx : inB xl xh x) (by' : inB yl yh y) (t : TypeId) :
    ∃ l v, K l ∧ (binOp op t (.int k x) (.int k y)).run P w = .ok v w ∧ RepP V w F l v := by
  unfold arith at h
  split at h
  · have := ivl_add bx by'
    exact ⟨_, _, h, by simp [binOp, Op.intArith], wrL_rep this⟩
  · have := ivl_sub bx by'
    split at h
    rename_i lo hi he
    rw [he] at this
    split at h
    · rename_i hz
      have h0 : x = 0 := by
        unfold isZ at hz
        split at hz
        · simp only [Bool.and_eq_true, decide_eq_true_eq] at hz
          have h1 := bx.1 _ rfl
          have h2 := bx.2 _ rfl
          omega
        · cases hz
      subst h0
      have e : (0 : Int) - y = -y := by omega
      have hrun : (binOp .sub t (.int k 0) (.int k y)).run P w = .ok (.int k (k.wrap (0 - y))) w := by simp [binOp, Op.intArith]
      rw [e] at this
      exact ⟨_, _, h, hrun, wrL_rep' this (by rw [e])⟩
    · exact ⟨_, _, h, by simp [binOp, Op.intArith], wrL_rep this⟩
  · split at h
    · rename_i hs
      have := ivl_mul bx by' hs
      exact ⟨_, _, h, by simp [binOp, Op.intArith], wrL_rep this⟩
    · exact ⟨_, _, h, by simp [binOp, Op.intArith], wrL_rep (inB_none _)⟩
  · obtain ⟨hy0, h⟩ := Ob_out h
    have hrun : (binOp .quo t (.int k x) (.int k y)).run P w = .ok (.int k (k.wrap (x.tdiv y))) w := by simp [binOp, Op.intDiv, hy0]
    split at h
    · rename_i h0
      have hx0 := geO_le h0 bx.1
      have he : x.tdiv y = x / y := Int.tdiv_eq_ediv_of_nonneg hx0
      split at h
      · rename_i h1
        simp only [Bool.and_eq_true] at h1
        have hy1 := geO_le h1.1 by'.1
        have h2 : 0 ≤ x / y := Int.ediv_nonneg hx0 (by omega)
        have h3 : x / y ≤ x := Int.ediv_le_self y hx0
        have hl : lim k (x / y) := ⟨by have : mnK k ≤ 0 := by cases k <;> decide
                                       omega, by have := hx.2; omega⟩
        refine ⟨_, _, h, hrun, ?_⟩
        rw [he, wrap_lim hl]
        exact .int hl ⟨by rintro _ ⟨⟩; exact h2, fun b hb => by have := bx.2 b hb; omega⟩
      · exact ⟨_, _, h, hrun, wrL_rep' (inB_none _) (by rw [he])⟩
    · exact ⟨_, _, h, hrun, wrL_rep (inB_none _)⟩
  · obtain ⟨hy0, h⟩ := Ob_out h
    have hrun : (binOp .rem t (.int k x) (.int k y)).run P w = .ok (.int k (x.tmod y)) w := by simp [binOp, Op.intDiv, hy0]
    have hl := lim_tmod (y := y) hx
    split at h
    · rename_i h0
      have hx0 := geO_le h0 bx.1
      have he : x.tmod y = x % y := Int.tmod_eq_emod_of_nonneg hx0
      rw [he] at hl hrun
      have hn : 0 ≤ x % y := Int.emod_nonneg _ hy0
      split at h
      · rename_i h1
        simp only [Bool.and_eq_true] at h1
        have hy1 := geO_le h1.1 by'.1
        obtain ⟨_, hyh⟩ := single_eq h1.2 by'
        refine ⟨_, _, h, hrun, .int hl ⟨by rintro _ ⟨⟩; exact hn, ?_⟩⟩
        rw [hyh]
        rintro _ ⟨⟩
        have := Int.emod_lt_of_pos x (show 0 < y by omega)
        show x % y ≤ y - 1
        omega
      · exact ⟨_, _, h, hrun, .int hl ⟨by rintro _ ⟨⟩; exact hn, nofun⟩⟩
    · exact ⟨_, _, h, hrun, .int hl (inB_none _)⟩
  · exact ⟨_, _, h, by simp [binOp, run_intBits], .int ⟨by rw [mnK_eq]; exact (bits_within _ _ _ _).1, by rw [mxK_eq]; exact (bits_within _ _ _ _).2⟩ (inB_none _)⟩
  · exact ⟨_, _, h, by simp [binOp, run_intBits], .int ⟨by rw [mnK_eq]; exact (bits_within _ _ _ _).1, by rw [mxK_eq]; exact (bits_within _ _ _ _).2⟩ (inB_none _)⟩
  · exact ⟨_, _, h, by simp [binOp, run_intBits], .int ⟨by rw [mnK_eq]; exact (bits_within _ _ _ _).1, by rw [mxK_eq]; exact (bits_within _ _ _ _).2⟩ (inB_none _)⟩
  · exact ⟨_, _, h, by simp [binOp, run_intBits], .int ⟨by rw [mnK_eq]; exact (bits_within _ _ _ _).1, by rw [mxK_eq]; exact (bits_within _ _ _ _).2⟩ (inB_none _)⟩
  · exact ⟨_, _, h, by simp [binOp, Op.intCmp], .bool⟩
  · exact ⟨_, _, h, by simp [binOp, Op.intCmp], .bool⟩
  · exact ⟨_, _, h, by simp [binOp, Op.intCmp], .bool⟩
  · exact ⟨_, _, h, by simp [binOp, Op.intCmp], .bool⟩
  · exact ⟨_, _, h, by simp [binOp, Op.intCmp], .bool⟩
  · exact ⟨_, _, h, by simp [binOp, Op.intCmp], .bool⟩
  · cases h
end
end Go.Tx
set_option linter.unusedVariables false
set_option linter.unusedSimpArgs false
namespace Go.Tx
open Go.RowKit

def aggD : TypeDesc → Bool
  | .struct _ => true
  | .array _ _ => true
  | _ => false
def KdOk (d : TypeDesc) : BK → Prop
  | .int k => d = .int k
  | .bool => d = .bool
  | .str => d = .string
  | .oth => True
section
variable {E : Env} {V : Lv E}
def KOk (P : Program) (d : TypeDesc) (sz : Nat) : TK → Prop
  | .basic => aggD d = false
  | .struct fs => ∃ fields : Array Field, d = .struct fields ∧ fields.size = fs.length ∧ ∀ (i : Nat) (o : Nat) (u : TypeId), fs[i]? = some (o, u) →
      ∃ f, fields[i]? = some f ∧ f.offset = o ∧ f.type = u ∧ f.name ≠ "_" ∧ ∃ iu, P.info? u = some iu ∧ iu.size ≠ 0 ∧ o + iu.size ≤ sz
  | .array n e => d = .array n e ∧ ∃ ie, P.info? e = some ie ∧ n * ie.size ≤ sz
  | .slice e => d = .slice e
structure TyOk (P : Program) (V : Lv E) (t : TypeId) (ti : TI E) : Prop where
  d : ∃ d, P.underlying t = some d ∧ ti.agg = aggD d ∧ KOk P d ti.size ti.k ∧ KdOk d ti.kd
  i : ∃ i z, P.info? t = some i ∧ i.size = ti.size ∧ i.bytes = ti.bytes ∧ i.zero = some z ∧ (ti.agg = true → z = .agg z.cells) ∧ (ti.agg = false → z.cells = #[z]) ∧ (∀ w F, RepL V w F ti.zero z.cells.toList) ∧ z.cells.size = ti.size
  el : tsz V ti.el = ti.size
  pos : 0 < ti.size ∧ 0 < ti.bytes
  eqg : P.eqGuardType P.depth t = false
  sih : P.stoodInHeld t = false
def TabOk (P : Program) (V : Lv E) (Γ : Nat → Option (TI E)) : Prop := ∀ t ti, Γ t = some ti → TyOk P V t ti

variable {Γ : Nat → Option (TI E)} {P : Program} {c : Cx} {g : Gh} {s s0 : St E} {w : World} {a : Act}
theorem tyE_out {t : TypeId} {K : TI E → Prop} (h : tyE Γ t K) : ∃ ti, Γ t = some ti ∧ K ti := by
  unfold tyE at h
  split at h
  · exact ⟨_, by assumption, h⟩
  · cases h
theorem cM_out {b : Bool} {q : Prop} (h : cM b q) : b = true ∧ q := by
  unfold cM at h
  split at h
  · exact ⟨rfl, h⟩
  · cases h
theorem cv_rep (v : Value) : RepA V c g s w (cv v) v := by
  unfold cv
  split
  · split
    · rename_i h
      simp only [Bool.and_eq_true, decide_eq_true_eq] at h
      exact .int h ⟨by rintro _ ⟨⟩; exact Int.le_refl _, by rintro _ ⟨⟩; exact Int.le_refl _⟩
    · trivial
  · exact .bool
  · split
    · rename_i h
      exact .str (Nat.le_of_ble_eq_true h)
    · trivial
  · rfl
  · rfl
  · trivial
theorem ev_rep (hR : Rel V c g s a w) (x : Operand) : RepA V c g s w (ev s x) (a.eval x) := by
  cases x with
  | tmp n => exact hR.slot n
  | const v => exact cv_rep v
  | global n => trivial
  | func f => exact ⟨#[], rfl, rfl, fun i x h => by simp at h⟩
/-- Two states that agree on what is read. -/
theorem ev_eq {xs : List Operand} (h : ∀ n ∈ tmpsOf xs, s.sl n = s0.sl n) {x : Operand} (hx : x ∈ xs) : ev s x = ev s0 x := by
  cases x with
  | tmp n =>
    refine h n ?_
    clear h
    induction xs with
    | nil => cases hx
    | cons y ys ih =>
      rcases List.mem_cons.1 hx with h | h
      · subst h; simp [tmpsOf]
      · have := ih h
        cases y <;> simp [tmpsOf, this]
  | const v => rfl
  | global n => rfl
  | func f => rfl

section
variable {F : Fr → Nat → Prop}
theorem RepP.intv {k : IntKind} {n : Int} {lo hi : Option Int} {v : Value} (h : RepP V w F (.int k n lo hi) v) : v = .int k n ∧ lim k n ∧ inB lo hi n := by
  cases h with
  | int h1 h2 => exact ⟨rfl, h1, h2⟩
theorem RepP.boolv {b : Bool} {v : Value} (h : RepP V w F (.bool b) v) : v = .bool b := by cases h; rfl
theorem RepP.strv {b : ByteArray} {v : Value} (h : RepP V w F (.str b) v) : v = .string b := by cases h; rfl
theorem RepP.strl {b : ByteArray} {v : Value} (h : RepP V w F (.str b) v) : b.size ≤ maxLen := by cases h; assumption
theorem bits_pos (k : IntKind) : k.bits ≤ 64 := by cases k <;> decide
theorem lim_ediv {k : IntKind} {x m : Int} (hx : lim k x) (hm : 0 < m) : lim k (x / m) := by
  have h0 : mnK k ≤ 0 ∧ 0 ≤ mxK k := by cases k <;> decide
  obtain ⟨h1, h2⟩ := hx
  rcases Int.le_total 0 x with h | h
  · have h3 := Int.ediv_nonneg h (Int.le_of_lt hm)
    have h4 := Int.ediv_le_self m h
    exact ⟨by omega, by omega⟩
  · have h3 : x / m ≤ 0 := by
      have := Int.ediv_le_ediv hm h
      simpa using this
    have h4 : x ≤ x / m := by
      have h5 := Int.mul_ediv_add_emod x m
      have h6 := Int.emod_nonneg x (show m ≠ 0 by omega)
      have h7 : m * (x / m) ≤ x / m := by
        have := Int.mul_le_mul_of_nonpos_right (show (1 : Int) ≤ m by omega) h3
        omega
      have h8 : x - m * (x / m) < m := by have := Int.emod_lt_of_pos x hm; omega
      rcases Int.lt_or_le (x / m) x with h9 | h9
      · exfalso
        -- x / m < x ≤ 0: then m * (x/m) ≤ x/m ≤ x - 1 and x - m*(x/m) < m
        have h10 : m * (x / m) ≤ m * (x - 1) := Int.mul_le_mul_of_nonneg_left (by omega) (by omega)
        have h11 : m * (x - 1) = m * x - m := by rw [Int.mul_sub, Int.mul_one]
        have h12 : m * x ≤ x := by
          have := Int.mul_le_mul_of_nonpos_right (show (1 : Int) ≤ m by omega) h
          omega
        omega
      · exact h9
    exact ⟨by omega, by omega⟩
theorem ediv_bounds {x m : Int} {xl xh : Option Int} (hm : 0 < m) (hb : inB xl xh x) : inB (xl.map (· / m)) (xh.map (· / m)) (x / m) := by
  refine ⟨fun a ha => ?_, fun b hb' => ?_⟩
  · cases xl with
    | none => cases ha
    | some l => simp at ha; subst ha; exact Int.ediv_le_ediv hm (hb.1 _ rfl)
  · cases xh with
    | none => cases hb'
    | some l => simp at hb'; subst hb'; exact Int.ediv_le_ediv hm (hb.2 _ rfl)
theorem mul_bounds {x m : Int} {xl xh : Option Int} (hm : 0 ≤ m) (hb : inB xl xh x) : inB (xl.map (· * m)) (xh.map (· * m)) (x * m) := by
  refine ⟨fun a ha => ?_, fun b hb' => ?_⟩
  · cases xl with
    | none => cases ha
    | some l => simp at ha; subst ha; exact Int.mul_le_mul_of_nonneg_right (hb.1 _ rfl) hm
  · cases xh with
    | none => cases hb'
    | some l => simp at hb'; subst hb'; exact Int.mul_le_mul_of_nonneg_right (hb.2 _ rfl) hm
theorem shift_sound {op : BinOp} {k k' : IntKind} {x y : Int} {xl xh yl : Option Int} {lit : Option Nat} {K : Lf E → Prop} (h : shiftE op k x xl xh y yl lit K) (hx : lim k x) (bx : inB xl xh x) (hl : ∀ n, lit = some n → y = (n : Int)) (t : TypeId) (hop : op = .shl ∨ op = .shr) :
    ∃ l v, K l ∧ (binOp op t (.int k x) (.int k' y)).run P w = .ok v w ∧ RepP V w F l v := by
  have hshl : ∀ n : Nat, 0 ≤ y → min y.toNat k.bits = n → (binOp .shl t (.int k x) (.int k' y)).run P w = .ok (.int k (k.wrap (x * 2 ^ n))) w := by
    intro n h0 hn
    simp [binOp, Op.shift, show ¬ y < 0 by omega, hn]
  have hshr : ∀ n : Nat, 0 ≤ y → min y.toNat k.bits = n → (binOp .shr t (.int k x) (.int k' y)).run P w = .ok (.int k (x / 2 ^ n)) w := by
    intro n h0 hn
    have h2 : (0 : Int) ≤ 2 ^ n := Int.le_of_lt (Int.pow_pos (by omega))
    simp [binOp, Op.shift, show ¬ y < 0 by omega, hn, Int.fdiv_eq_ediv_of_nonneg x h2]
  unfold shiftE at h
  split at h
  · have hy := hl 0 rfl
    refine ⟨_, _, h, hshl 0 (by omega) (by omega), ?_⟩
    rw [Int.pow_zero, Int.mul_one, wrap_lim hx]
    exact .int hx bx
  · have hy := hl 0 rfl
    refine ⟨_, _, h, hshr 0 (by omega) (by omega), ?_⟩
    rw [Int.pow_zero, Int.ediv_one]
    exact .int hx bx
  · rename_i n _
    obtain ⟨hc, h⟩ := cM_out h
    have hc := Nat.le_of_ble_eq_true hc
    have hy := hl n rfl
    have e : ((2 ^ n : Nat) : Int) = 2 ^ n := by simp
    refine ⟨_, _, h, hshl n (by omega) (by omega), ?_⟩
    rw [← e]
    exact wrL_rep (mul_bounds (Int.natCast_nonneg _) bx)
  · rename_i n _
    obtain ⟨hc, h⟩ := cM_out h
    have hc := Nat.le_of_ble_eq_true hc
    have hy := hl n rfl
    have e : ((2 ^ n : Nat) : Int) = 2 ^ n := by simp
    have h2 : (0 : Int) < ((2 ^ n : Nat) : Int) := by have := Nat.two_pow_pos n; exact_mod_cast this
    refine ⟨_, _, h, hshr n (by omega) (by omega), ?_⟩
    rw [← e]
    exact .int (lim_ediv hx h2) (ediv_bounds h2 bx)
  · obtain ⟨h0, h⟩ := Ob_out h
    refine ⟨_, _, h, hshl _ h0 rfl, .int (lim_wrap _ _) (inB_none _)⟩
  · obtain ⟨h0, h⟩ := Ob_out h
    have h2 : (0 : Int) < 2 ^ (min y.toNat k.bits) := Int.pow_pos (by omega)
    refine ⟨_, _, h, hshr _ h0 rfl, .int (lim_ediv hx h2) ?_⟩
    split
    · rename_i hz
      have hx0 := geO_le hz bx.1
      refine ⟨by rintro _ ⟨⟩; exact Int.ediv_nonneg hx0 (Int.le_of_lt h2), fun b hb => ?_⟩
      have := bx.2 b hb
      have := Int.ediv_le_self (2 ^ (min y.toNat k.bits)) hx0
      unfold shrE
      omega
    · exact inB_none _
  · cases h
end
end
end Go.Tx
set_option linter.unusedVariables false
set_option linter.unusedSimpArgs false
namespace Go.Tx
open Go.RowKit

section
variable {E : Env} {V : Lv E} {Γ : Nat → Option (TI E)} {P : Program} {c : Cx} {g : Gh} {s s0 : St E} {w : World} {a : Act}

/-- A row as it reads now. -/
def RowRead (V : Lv E) (w : World) (F : Fr → Nat → Prop) (fr : Fr) (t : Ty) (xs : List (El E t)) (v : Value) : Prop :=
  ∃ A cap, v = .slice A xs.length cap ∧ xs.length ≤ cap ∧ xs.length ≤ maxLen ∧ (xs = [] ∨ ∃ b o, A = some ⟨b, o, none⟩ ∧
    ∀ (j : Nat) (x : El E t) (i : Nat) (l : Lf E), xs[j]? = some x → (leaves V t x)[i]? = some l → ∃ u, w.cell? ⟨b, o + (j * tsz V t + i), none⟩ = some u ∧ RepP V w F (flag fr l) u)
theorem RowRead.take {F : Fr → Nat → Prop} {fr : Fr} {t : Ty} {xs : List (El E t)} {A : Option Addr} {cap : Nat} (h : RowRead V w F fr t xs (.slice A xs.length cap)) (n : Nat) (hn : n ≤ xs.length) : RowRead V w F fr t (xs.take n) (.slice A n cap) := by
  obtain ⟨A', cap', he, h1, h2, h3⟩ := h
  injection he with e1 e2 e3
  subst e1 e3
  have hl : (xs.take n).length = n := by simp; omega
  refine ⟨A, cap, by rw [hl], by omega, by omega, ?_⟩
  rcases h3 with h3 | ⟨b, o, h3, h4⟩
  · exact .inl (by rw [h3]; simp)
  · refine .inr ⟨b, o, h3, fun j x i l hj hi => h4 j x i l ?_ hi⟩
    rw [List.getElem?_take] at hj
    split at hj
    · exact hj
    · cases hj
theorem repP_row {F : Fr → Nat → Prop} {fr : Fr} {t : Ty} {xs : List (El E t)} {v : Value} (h : RepP V w F (.row fr t xs) v) : RowRead V w F fr t xs v := by
  cases h with
  | nil => exact ⟨_, _, rfl, Nat.zero_le _, Nat.zero_le _, .inl rfl⟩
  | row u hl hm hF hc hr => exact ⟨_, _, rfl, hl, hm, .inr ⟨_, _, rfl, fun j x i l hj hi => ⟨u j i, hc j x i l hj hi, hr j x i l hj hi⟩⟩⟩
theorem own_read {r : Nat} {row : Rw E} (h : RowOk V c g w r row) : RowRead V w (FF c g) .made row.t row.xs (g.rv r) := by
  obtain ⟨cells, ho, hel, hs⟩ := h
  rcases ho.2 with ⟨h1, h2⟩ | ⟨b, cap, cur, h1, h2, hh, h6, h7, h8, h9⟩
  · rw [h1]
    have : row.xs = [] := List.eq_nil_of_length_eq_zero h2
    exact ⟨none, 0, by rw [this]; rfl, by rw [this]; exact Nat.le_refl _, by rw [this]; exact Nat.zero_le _, .inl this⟩
  · rw [h1]
    refine ⟨_, cap, rfl, h6, Nat.le_trans h6 h7, .inr ⟨b, 0, rfl, fun j x i l hj hi => ?_⟩⟩
    obtain ⟨u, h10, h11⟩ := hel j x i l hj hi
    refine ⟨u, ?_, h11⟩
    rw [Nat.zero_add, cell_of_row w b _ cur row.e (0, 0) hh, ← Array.getElem?_toList]
    rw [← h9, List.getElem?_take] at h10
    split at h10
    · exact h10
    · cases h10
theorem rowOf_sound {tt : Ty} {x : AV E} {K : (t : Ty) → List (El E t) → Fr → List Nat → Prop} {v : Value} (h : rowOf s tt x K) (hm : RelG V c g s w) (hx : RepA V c g s w x v) :
    ∃ (t : Ty) (xs : List (El E t)) (fr : Fr) (rr : List Nat), K t xs fr rr ∧ RowRead V w (FF c g) fr t xs v := by
  unfold rowOf at h
  split at h
  · exact ⟨_, _, _, _, h, repP_row hx⟩
  · rename_i r vr m
    split at h
    · rename_i ver' e t xs hr
      split at h
      · rename_i hb
        have hb := Nat.eq_of_beq_eq_true hb
        obtain ⟨row, h1, h2, h3⟩ := hx
        rw [hr] at h1
        injection h1 with h1
        subst h1
        have hv := h3 rfl hb.symm
        have ho := own_read (hm.row r _ hr rfl)
        split at h
        · exact ⟨_, _, _, _, h, by rw [show v = g.rv r from hv]; exact ho⟩
        · rename_i n
          obtain ⟨hn, A, cap, h4, h5⟩ := hv
          refine ⟨_, _, _, _, h, ?_⟩
          rw [h5]
          rw [h4] at ho
          exact ho.take n hn
      · cases h
    · cases h
  · have : v = .slice none 0 0 := hx
    subst this
    exact ⟨_, _, _, _, h, none, 0, rfl, Nat.le_refl _, Nat.zero_le _, .inl rfl⟩
  · cases h
/-- What 'rowOf' looks at. -/
theorem rowOf_eq {tt : Ty} {x : AV E} {K : (t : Ty) → List (El E t) → Fr → List Nat → Prop} (h : rowOf s0 tt x K) :
    ∃ (t : Ty) (xs : List (El E t)) (fr : Fr) (rr : List Nat), K t xs fr rr ∧ ∀ s : St E, (∀ r ∈ rr, s.rw r = s0.rw r) → rowOf s tt x fun t' xs' fr' _ => (⟨t', xs', fr'⟩ : (t : Ty) × List (El E t) × Fr) = ⟨t, xs, fr⟩ := by
  unfold rowOf at h
  split at h
  · exact ⟨_, _, _, _, h, fun s _ => rfl⟩
  · rename_i r vr m
    split at h
    · rename_i ver' e t xs hr
      split at h
      · rename_i hb
        split at h
        · refine ⟨_, _, _, _, h, fun s hs => ?_⟩
          have := hs r (by simp)
          simp only [rowOf, this, hr, hb]
        · refine ⟨_, _, _, _, h, fun s hs => ?_⟩
          have := hs r (by simp)
          simp only [rowOf, this, hr, hb]
      · cases h
    · cases h
  · exact ⟨_, _, _, _, h, fun s _ => rfl⟩
  · cases h

/-! ## Parts -/
theorem addr_add (b o n : Nat) : (⟨b, o, none⟩ : Addr).add n = ⟨b, o + n, none⟩ := by unfold Addr.add; split <;> simp_all
theorem run_isAgg {t : TypeId} {ti : TI E} (ht : TyOk P V t ti) (w : World) : (isAgg t).run P w = .ok ti.agg w := by
  obtain ⟨d, h1, h2, _⟩ := ht.d
  unfold isAgg
  simp only [Sem.run_bind, run_underlying h1, Result.andThen_ok, h2]
  cases d <;> rfl
theorem run_size {t : TypeId} {ti : TI E} (ht : TyOk P V t ti) (w : World) : (sizeOf t).run P w = .ok ti.size w := by
  obtain ⟨i, z, h1, h2, _⟩ := ht.i
  simp [sizeOf, typeInfo, h1, h2]
/-- The leaves stand in the cells from an address on. -/
def CellsAt (V : Lv E) (w : World) (F : Fr → Nat → Prop) (b o : Nat) (ls : List (Lf E)) : Prop := ∀ (i : Nat) (l : Lf E), ls[i]? = some l → ∃ u, w.cell? ⟨b, o + i, none⟩ = some u ∧ RepP V w F l u
theorem CellsAt.drop {F : Fr → Nat → Prop} {b o : Nat} {ls : List (Lf E)} (h : CellsAt V w F b o ls) (n : Nat) : CellsAt V w F b (o + n) (ls.drop n) := by
  intro i l hi
  rw [List.getElem?_drop] at hi
  obtain ⟨u, h1, h2⟩ := h _ l hi
  exact ⟨u, by rw [Nat.add_assoc]; exact h1, h2⟩
theorem valOf_load {t : TypeId} {ls : List (Lf E)} {K : AV E → Prop} {b o : Nat} (hT : TabOk P V Γ) (h : valOf Γ t ls K) (hc : CellsAt V w (FF c g) b o ls) :
    ∃ x v, K x ∧ (loadVar t ⟨b, o, none⟩).run P w = .ok v w ∧ RepA V c g s w x v := by
  unfold valOf at h
  obtain ⟨ti, h1, h⟩ := tyE_out h
  have ht := hT t ti h1
  unfold loadVar
  simp only [Sem.run_bind, run_isAgg ht, Result.andThen_ok]
  split at h
  · rename_i ha
    split at h
    · rename_i hb
      have hb := Nat.le_of_ble_eq_true hb
      have hcs : ∃ cs : List Value, cs.length = ti.size ∧ ∀ i u, cs[i]? = some u → w.cell? ⟨b, o + i, none⟩ = some u ∧ ∃ l, ls[i]? = some l ∧ RepP V w (FF c g) l u := by
        refine ⟨(List.range ti.size).map fun i => (w.cell? ⟨b, o + i, none⟩).getD undef, by simp, fun i u hi => ?_⟩
        rw [List.getElem?_map] at hi
        have hil : i < ti.size := by
          rcases Nat.lt_or_ge i ti.size with h | h
          · exact h
          · rw [List.getElem?_eq_none (by simpa using h)] at hi; cases hi
        obtain ⟨u', h2, h3⟩ := hc i _ (List.getElem?_eq_getElem (show i < ls.length by omega))
        rw [List.getElem?_range hil] at hi
        simp only [Option.map_some, h2, Option.getD_some, Option.some.injEq] at hi
        subst hi
        exact ⟨h2, _, List.getElem?_eq_getElem (show i < ls.length by omega), h3⟩
      obtain ⟨cs, hl, hcs⟩ := hcs
      have hrun : (loadCells ⟨b, o, none⟩ cs.length).run P w = .ok cs.toArray w := run_loadCells_list (P := P) w ⟨b, o, none⟩ cs (fun j v hj => by rw [addr_add]; exact (hcs j v hj).1)
      rw [hl] at hrun
      refine ⟨_, _, h, by rw [ha]; simp [run_size ht, hrun], cs.toArray, rfl, ?_, fun i l hi => ?_⟩
      · simp [hl]; omega
      · rw [List.getElem?_take] at hi
        split at hi
        · rename_i hlt
          have hlt' : i < cs.length := by omega
          obtain ⟨_, l', h3, h4⟩ := hcs i _ (List.getElem?_eq_getElem hlt')
          rw [hi] at h3
          injection h3 with h3
          subst h3
          exact ⟨_, by simp [List.getElem?_eq_getElem hlt'], h4⟩
        · cases hi
    · cases h
  · rename_i ha
    cases ls with
    | nil => cases h
    | cons l r =>
      obtain ⟨u, h2, h3⟩ := hc 0 l rfl
      rw [Nat.add_zero] at h2
      exact ⟨_, _, h, by rw [ha]; simp [h2], h3⟩
/-- A part of an aggregate. -/
theorem valOf_part {t : TypeId} {ls : List (Lf E)} {K : AV E → Prop} {cs : Array Value} {o : Nat} (hT : TabOk P V Γ) (h : valOf Γ t (ls.drop o) K) (hc : RepL V w (FF c g) ls cs.toList) :
    ∃ x v, K x ∧ (part t cs o).run P w = .ok v w ∧ RepA V c g s w x v := by
  unfold valOf at h
  obtain ⟨ti, h1, h⟩ := tyE_out h
  have ht := hT t ti h1
  have hcl : cs.size = ls.length := by have := hc.1; simpa using this
  unfold part
  simp only [Sem.run_bind, run_isAgg ht, Result.andThen_ok]
  split at h
  · rename_i ha
    split at h
    · rename_i hb
      have hb := Nat.le_of_ble_eq_true hb
      rw [List.length_drop] at hb
      refine ⟨_, _, h, by rw [ha]; simp [run_size ht], cs.extract o (o + ti.size), rfl, ?_, fun i l hi => ?_⟩
      · simp; omega
      · rw [List.getElem?_take] at hi
        split at hi
        · rename_i hlt
          rw [List.getElem?_drop] at hi
          obtain ⟨u, h2, h3⟩ := hc.2 _ l hi
          refine ⟨u, ?_, h3⟩
          rw [Array.getElem?_toList] at h2
          have := (Array.getElem?_eq_some_iff.1 h2).1
          rw [Array.getElem?_toList, Array.getElem?_extract_of_lt (by omega)]
          rw [Array.getElem?_eq_getElem this] at h2
          exact h2
        · cases hi
    · cases h
  · rename_i ha
    split at h
    · rename_i l r he
      have : ls[o]? = some l := by
        have h4 : (ls.drop o)[0]? = some l := by rw [he]; rfl
        rwa [List.getElem?_drop, Nat.add_zero] at h4
      obtain ⟨u, h2, h3⟩ := hc.2 _ l this
      rw [Array.getElem?_toList] at h2
      exact ⟨_, _, h, by rw [ha]; simp [h2], h3⟩
    · cases h

/-! ## '==' of aggregates -/
/-- 'X' stands for the first leaves, as many as the type has. -/
def RepV (V : Lv E) (w : World) (F : Fr → Nat → Prop) (ti : TI E) (ls : List (Lf E)) (X : Value) : Prop :=
  match ti.agg with
  | true => ∃ cs : Array Value, X = .agg cs ∧ ∀ (i : Nat) (l : Lf E), i < ti.size → ls[i]? = some l → ∃ u, cs[i]? = some u ∧ RepP V w F l u
  | false => ∀ l, ls[0]? = some l → RepP V w F l X
theorem part_rep {t : TypeId} {ti : TI E} {ls : List (Lf E)} {cs : Array Value} {n o : Nat} {F : Fr → Nat → Prop} (ht : TyOk P V t ti) (hc : ∀ (i : Nat) (l : Lf E), i < n → ls[i]? = some l → ∃ u, cs[i]? = some u ∧ RepP V w F l u)
    (hn : o + ti.size ≤ n) (h0 : ti.agg = false → ∃ l, ls[o]? = some l) : ∃ X, (part t cs o).run P w = .ok X w ∧ RepV V w F ti (ls.drop o) X := by
  unfold part
  simp only [Sem.run_bind, run_isAgg ht, Result.andThen_ok]
  cases ha : ti.agg with
  | true =>
    refine ⟨.agg (cs.extract o (o + ti.size)), by simp [run_size ht], ?_⟩
    unfold RepV
    rw [ha]
    refine ⟨_, rfl, fun i l hi hl => ?_⟩
    rw [List.getElem?_drop] at hl
    obtain ⟨u, h2, h3⟩ := hc _ l (by omega) hl
    refine ⟨u, ?_, h3⟩
    have := (Array.getElem?_eq_some_iff.1 h2).1
    rw [Array.getElem?_extract_of_lt (by omega)]
    rw [Array.getElem?_eq_getElem this] at h2
    exact h2
  | false =>
    obtain ⟨l0, hl0⟩ := h0 ha
    have := ht.pos.1
    obtain ⟨u, h2, h3⟩ := hc o l0 (by omega) hl0
    refine ⟨u, by simp [h2], ?_⟩
    unfold RepV
    rw [ha]
    intro l hl
    rw [List.getElem?_drop, Nat.add_zero, hl0] at hl
    injection hl with hl
    subst hl
    exact h3
theorem eqT_head {d : Nat} {t : TypeId} {ti : TI E} {xs ys : List (Lf E)} {b : Bool} (hT : TabOk P V Γ) (h1 : Γ t = some ti) (ha : ti.agg = false) (h : eqT Γ d t xs ys = some b) : (∃ l, xs[0]? = some l) ∧ ∃ l, ys[0]? = some l := by
  obtain ⟨dd, h2, h3, h4, h5⟩ := (hT t ti h1).d
  cases d with
  | zero => cases h
  | succ d =>
    simp only [eqT, h1] at h
    split at h
    · rename_i fs he
      rw [he] at h4
      obtain ⟨fields, h6, _⟩ := h4
      subst h6
      rw [ha] at h3; cases h3
    · rename_i n e he
      rw [he] at h4
      obtain ⟨h6, _⟩ := h4
      subst h6
      rw [ha] at h3; cases h3
    · split at h <;> first | exact ⟨⟨_, rfl⟩, ⟨_, rfl⟩⟩ | cases h
    · cases h
theorem run_step {D : Nat} {t : TypeId} {cx cy : Array Value} {o : Nat} {X Y : Value} {b : Bool} (h1 : (part t cx o).run P w = .ok X w) (h2 : (part t cy o).run P w = .ok Y w) (h3 : (Op.equalIn D t X Y).run P w = .ok b w) (rest : Sem Bool) (r : Bool) (h4 : rest.run P w = .ok r w) :
    (do let x ← part t cx o; let y ← part t cy o; let z ← Op.equalIn D t x y; if (!z) = true then pure false else rest : Sem Bool).run P w = .ok (b && r) w := by
  simp only [Sem.run_bind, h1, h2, h3, Result.andThen_ok]
  cases b
  · simp
  · simpa using h4
/-- The fields, one behind the other, as one piece of the model. -/
def itemsS (D : Nat) (cx cy : Array Value) : List (Nat × TypeId) → Sem Bool
  | [] => pure true
  | (o, u) :: r => (do let x ← part u cx o; let y ← part u cy o; let z ← Op.equalIn D u x y; if (!z) = true then pure false else itemsS D cx cy r : Sem Bool)
def EqIH (P : Program) (V : Lv E) (Γ : Nat → Option (TI E)) (w : World) (F : Fr → Nat → Prop) (d : Nat) : Prop :=
  ∀ (t : TypeId) (ti : TI E) (xs ys : List (Lf E)) (b : Bool) (X Y : Value), Γ t = some ti → eqT Γ d t xs ys = some b → RepV V w F ti xs X → RepV V w F ti ys Y → ∀ D, d ≤ D → (Op.equalIn D t X Y).run P w = .ok b w
theorem items_sound (hT : TabOk P V Γ) {F : Fr → Nat → Prop} {d D : Nat} (ih : EqIH P V Γ w F d) (hD : d ≤ D) {xs ys : List (Lf E)} {cx cy : Array Value} {n : Nat}
    (hcx : ∀ (i : Nat) (l : Lf E), i < n → xs[i]? = some l → ∃ u, cx[i]? = some u ∧ RepP V w F l u) (hcy : ∀ (i : Nat) (l : Lf E), i < n → ys[i]? = some l → ∃ u, cy[i]? = some u ∧ RepP V w F l u) :
    ∀ (fs : List (Nat × TypeId)) (b : Bool), eqFs (eqT Γ d) xs ys fs = some b → (∀ o u, (o, u) ∈ fs → ∃ iu, P.info? u = some iu ∧ o + iu.size ≤ n) → (itemsS D cx cy fs).run P w = .ok b w := by
  have one : ∀ o u b0, (∃ iu, P.info? u = some iu ∧ o + iu.size ≤ n) → eqT Γ d u (xs.drop o) (ys.drop o) = some b0 → ∃ X Y, (part u cx o).run P w = .ok X w ∧ (part u cy o).run P w = .ok Y w ∧ (Op.equalIn D u X Y).run P w = .ok b0 w := by
    intro o u b0 hin hb0
    have : ∃ tu, Γ u = some tu := by
      cases hg : Γ u with
      | some tu => exact ⟨tu, rfl⟩
      | none => cases d <;> simp [eqT, hg] at hb0
    obtain ⟨tu, hu⟩ := this
    obtain ⟨iu, hi1, hi2⟩ := hin
    obtain ⟨i', z, hj1, hj2, _⟩ := (hT u tu hu).i
    rw [hi1] at hj1
    injection hj1 with hj1
    subst hj1
    have hh : tu.agg = false → (∃ l, xs[o]? = some l) ∧ ∃ l, ys[o]? = some l := fun ha => by
      have := eqT_head hT hu ha hb0
      simpa [List.getElem?_drop] using this
    obtain ⟨X, p1, p2⟩ := part_rep (hT u tu hu) hcx (by omega) (fun ha => (hh ha).1) (P := P)
    obtain ⟨Y, q1, q2⟩ := part_rep (hT u tu hu) hcy (by omega) (fun ha => (hh ha).2) (P := P)
    exact ⟨X, Y, p1, q1, ih u tu _ _ b0 X Y hu hb0 p2 q2 D hD⟩
  intro fs
  induction fs with
  | nil => intro b h _; simp [eqFs] at h; subst h; rfl
  | cons f r ihf =>
    intro b h hin
    obtain ⟨o, u⟩ := f
    cases r with
    | nil =>
      simp only [eqFs] at h
      obtain ⟨X, Y, p1, p2, p3⟩ := one o u b (hin o u (by simp)) h
      rw [← Bool.and_true b]
      exact run_step p1 p2 p3 _ true rfl
    | cons f2 r2 =>
      simp only [eqFs] at h
      split at h
      · rename_i b1 b2 e1 e2
        injection h with h
        subst h
        obtain ⟨X, Y, p1, p2, p3⟩ := one o u b1 (hin o u (by simp)) e1
        exact run_step p1 p2 p3 _ b2 (ihf b2 e2 (fun o u hm => hin o u (by simp [hm])))
      · cases h
theorem eqFields_items (D : Nat) (cx cy : Array Value) : ∀ (fl : List Field) (fs : List (Nat × TypeId)), fl.length = fs.length → (∀ (i : Nat) (o : Nat) (u : TypeId), fs[i]? = some (o, u) → ∃ f, fl[i]? = some f ∧ f.offset = o ∧ f.type = u ∧ f.name ≠ "_") →
    Op.eqFields D cx cy fl = itemsS D cx cy fs
  | [], [], _, _ => rfl
  | [], _ :: _, h, _ => by simp at h
  | _ :: _, [], h, _ => by simp at h
  | f :: fl, (o, u) :: fs, hl, hk => by
    obtain ⟨f', k1, k2, k3, k4⟩ := hk 0 o u rfl
    simp only [List.getElem?_cons_zero, Option.some.injEq] at k1
    subst k1
    simp only [Op.eqFields, itemsS, k4, ne_eq, not_false_eq_true, if_true, k2, k3]
    rw [eqFields_items D cx cy fl fs (by simpa using hl) (fun i o u hi => hk (i + 1) o u (by simpa using hi))]
theorem eqItems_items (D : Nat) (cx cy : Array Value) (e : TypeId) (sz : Nat) : ∀ k j, Op.eqItems D e sz cx cy (List.range' j k) = itemsS D cx cy (arrFs e sz k (j * sz))
  | 0, _ => rfl
  | k + 1, j => by
    simp only [List.range'_succ, Op.eqItems, arrFs, itemsS]
    rw [eqItems_items D cx cy e sz k (j + 1), Nat.add_mul, Nat.one_mul]
theorem arrFs_bound (e : TypeId) (sz : Nat) (o : Nat) (u : TypeId) : ∀ k j, (o, u) ∈ arrFs e sz k (j * sz) → u = e ∧ o + sz ≤ (j + k) * sz
  | 0, _, hm => by cases hm
  | k + 1, j, hm => by
    simp only [arrFs, List.mem_cons] at hm
    have e1 : (j + (k + 1)) * sz = j * sz + sz + k * sz := by rw [Nat.add_mul, Nat.add_mul, Nat.one_mul]; omega
    rcases hm with hm | hm
    · injection hm with e2 e3
      exact ⟨e3, by omega⟩
    · have := arrFs_bound e sz o u k (j + 1) (by rw [Nat.add_mul, Nat.one_mul]; exact hm)
      rw [show j + 1 + k = j + (k + 1) by omega] at this
      exact this
theorem eqT_sound (hT : TabOk P V Γ) {F : Fr → Nat → Prop} : ∀ (d : Nat), EqIH P V Γ w F d := by
  intro d
  induction d with
  | zero => intro t ti xs ys b X Y h1 h; cases h
  | succ d ih =>
    intro t ti xs ys b X Y h1 h hX hY D hD
    obtain ⟨D, rfl⟩ : ∃ D', D = D' + 1 := ⟨D - 1, by omega⟩
    have ht := hT t ti h1
    obtain ⟨dd, h2, h3, h4, h5⟩ := ht.d
    simp only [eqT, h1] at h
    cases hk : ti.k with
    | struct fs =>
      rw [hk] at h4 h
      obtain ⟨fds, h6, h7, h8⟩ := h4
      subst h6
      unfold RepV at hX hY
      rw [h3] at hX hY
      obtain ⟨cx, rfl, hcx⟩ := hX
      obtain ⟨cy, rfl, hcy⟩ := hY
      have hfo : P.fieldsOf t = fds := by simp [Program.fieldsOf, h2]
      rw [run_equalIn_struct w D t cx cy (by rw [hfo]; exact h2) ht.sih, hfo]
      rw [eqFields_items D cx cy fds.toList fs (by simpa using h7) (fun i o u hi => by
        obtain ⟨f, k1, k2, k3, k4, _⟩ := h8 i o u hi
        exact ⟨f, by rw [Array.getElem?_toList]; exact k1, k2, k3, k4⟩)]
      refine items_sound hT ih (by omega) hcx hcy fs b h (fun o u hm => ?_)
      obtain ⟨i, hi⟩ := List.mem_iff_getElem?.1 hm
      obtain ⟨f, _, _, _, _, iu, k5, _, k6⟩ := h8 i o u hi
      exact ⟨iu, k5, k6⟩
    | array n e =>
      rw [hk] at h4 h
      dsimp only at h
      obtain ⟨h6, ie, h7, h8⟩ := h4
      subst h6
      unfold RepV at hX hY
      rw [h3] at hX hY
      obtain ⟨cx, rfl, hcx⟩ := hX
      obtain ⟨cy, rfl, hcy⟩ := hY
      rw [run_equalIn_array w D cx cy h2 h7]
      cases hte : Γ e with
      | none => rw [hte] at h; cases h
      | some te =>
        rw [hte] at h
        obtain ⟨i', z, hj1, hj2, _⟩ := (hT e te hte).i
        rw [h7] at hj1
        injection hj1 with hj1
        subst hj1
        have hco : P.cellsOf e = te.size := by simp [Program.cellsOf, h7, hj2]
        rw [hco, List.range_eq_range', eqItems_items D cx cy e te.size n 0, Nat.zero_mul]
        refine items_sound hT ih (by omega) hcx hcy _ b h (fun o u hm => ?_)
        obtain ⟨rfl, hb⟩ := arrFs_bound e te.size o u n 0 (by rw [Nat.zero_mul]; exact hm)
        exact ⟨_, h7, by rw [hj2]; rw [hj2] at h8; rw [Nat.zero_add] at hb; omega⟩
    | slice e => rw [hk] at h; cases h
    | basic =>
      rw [hk] at h4 h
      have hag : ti.agg = false := h3.trans h4
      unfold RepV at hX hY
      rw [hag] at hX hY
      dsimp only at h
      split at h
      · rename_i hkd
        split at h
        · rename_i hk12
          have hk12 := of_decide_eq_true hk12
          subst hk12
          obtain ⟨e1, _⟩ := (hX _ rfl).intv
          obtain ⟨e2, _⟩ := (hY _ rfl).intv
          subst e1 e2
          injection h with h
          subst h
          rw [hkd] at h5
          have h5 : dd = .int _ := h5
          subst h5
          exact run_equalIn_int w D t _ _ _ _ h2
        · cases h
      · rename_i hkd
        have e1 := (hX _ rfl).boolv
        have e2 := (hY _ rfl).boolv
        subst e1 e2
        injection h with h
        subst h
        rw [hkd] at h5
        have h5 : dd = .bool := h5
        subst h5
        exact run_equalIn_bool' w D t _ _ h2
      · rename_i hkd
        have e1 := (hX _ rfl).strv
        have e2 := (hY _ rfl).strv
        subst e1 e2
        injection h with h
        subst h
        rw [hkd] at h5
        have h5 : dd = .string := h5
        subst h5
        exact run_equalIn_string w D t _ _ h2
      · cases h
theorem neFs_eq (g1 g2 : TypeId → List (Lf E) → List (Lf E) → Option Bool) (hg : ∀ t xs ys, g2 t xs ys = (g1 t xs ys).map (!·)) (xs ys : List (Lf E)) : ∀ fs, neFs g2 xs ys fs = (eqFs g1 xs ys fs).map (!·)
  | [] => rfl
  | [(o, u)] => by simp [neFs, eqFs, hg]
  | (o, u) :: f :: r => by
    have ih := neFs_eq g1 g2 hg xs ys (f :: r)
    simp only [neFs, eqFs, hg]
    rw [ih]
    cases g1 u (xs.drop o) (ys.drop o) <;> cases eqFs g1 xs ys (f :: r) <;> simp
theorem neT_eq : ∀ (d : Nat) (t : TypeId) (xs ys : List (Lf E)), neT Γ d t xs ys = (eqT Γ d t xs ys).map (!·) := by
  intro d
  induction d with
  | zero => intro t xs ys; rfl
  | succ d ih =>
    intro t xs ys
    simp only [neT, eqT]
    cases Γ t with
    | none => rfl
    | some ti =>
      dsimp only
      cases ti.k with
      | struct fs => exact neFs_eq _ _ ih xs ys fs
      | array n e =>
        dsimp only
        cases Γ e with
        | none => rfl
        | some te => exact neFs_eq _ _ ih xs ys _
      | slice e => rfl
      | basic =>
        dsimp only
        split <;> first | rfl | (split <;> rfl) | skip
end
end Go.Tx
set_option linter.unusedVariables false
set_option linter.unusedSimpArgs false
namespace Go.Tx
open Go.RowKit

section
variable {E : Env} {V : Lv E} {Γ : Nat → Option (TI E)} {P : Program} {c : Cx} {g : Gh} {s s0 : St E} {w : World} {a : Act}

theorem run_eqGuard_plain (op : BinOp) (t : TypeId) (x y : Operand) (u v : Value) (h : (∃ k n, u = .int k n) ∨ (∃ b, u = .bool b) ∨ ∃ s, u = .string s) : (eqGuard op t x y u v).run P w = .ok () w := by
  rcases h with ⟨k, n, rfl⟩ | ⟨b, rfl⟩ | ⟨s, rfl⟩ <;> cases op <;> simp [eqGuard]
theorem binE_sound (hT : TabOk P V Γ) {op : BinOp} {t : TypeId} {x y : AV E} {lit : Option Nat} {K : AV E → Prop} (h : binE Γ op t x y lit K) {ux uy : Value} (hx : RepA V c g s w x ux) (hy : RepA V c g s w y uy)
    (hl : ∀ n, lit = some n → ∃ k, uy = .int k (n : Int)) (xo yo : Operand) : ∃ v u, K v ∧ (do eqGuard op t xo yo ux uy; binOp op t ux uy : Sem Value).run P w = .ok u w ∧ RepA V c g s w v u := by
  unfold binE at h
  split at h
  · rename_i k a al ah k' b bl bh
    obtain ⟨rfl, hx1, hx2⟩ := RepP.intv hx
    obtain ⟨rfl, hy1, hy2⟩ := RepP.intv hy
    have hg := run_eqGuard_plain (P := P) (w := w) op t xo yo (.int k a) (.int k' b) (.inl ⟨_, _, rfl⟩)
    have hl' : ∀ n, lit = some n → b = (n : Int) := fun n hn => by obtain ⟨k2, h2⟩ := hl n hn; injection h2
    split at h
    · obtain ⟨l, v, h1, h2, h3⟩ := shift_sound (P := P) (k' := k') h hx1 hx2 hl' t (.inl rfl)
      exact ⟨_, _, h1, by simp only [Sem.run_bind, hg, Result.andThen_ok]; exact h2, h3⟩
    · obtain ⟨l, v, h1, h2, h3⟩ := shift_sound (P := P) (k' := k') h hx1 hx2 hl' t (.inr rfl)
      exact ⟨_, _, h1, by simp only [Sem.run_bind, hg, Result.andThen_ok]; exact h2, h3⟩
    · split at h
      · rename_i hk
        have hk := of_decide_eq_true hk
        subst hk
        obtain ⟨l, v, h1, h2, h3⟩ := arith_sound (P := P) h hx1 hy1 hx2 hy2 t
        exact ⟨_, _, h1, by simp only [Sem.run_bind, hg, Result.andThen_ok]; exact h2, h3⟩
      · cases h
  · rename_i a b
    have e1 := RepP.boolv hx
    have e2 := RepP.boolv hy
    subst e1 e2
    have hg := run_eqGuard_plain (P := P) (w := w) op t xo yo (.bool a) (.bool b) (.inr (.inl ⟨_, rfl⟩))
    split at h
    · obtain ⟨ti, h1, h⟩ := tyE_out h
      obtain ⟨d, h2, h3, h4, h5⟩ := (hT t ti h1).d
      split at h
      · rename_i hk
        rw [hk] at h5
        have h5 : d = .bool := h5
        subst h5
        have := run_equalIn_bool' w 9999 t a b h2
        exact ⟨_, _, h, by simp only [Sem.run_bind, hg, Result.andThen_ok]; simp [binOp, Op.equal, Op.maxDepth, this], .bool⟩
      · cases h
    · obtain ⟨ti, h1, h⟩ := tyE_out h
      obtain ⟨d, h2, h3, h4, h5⟩ := (hT t ti h1).d
      split at h
      · rename_i hk
        rw [hk] at h5
        have h5 : d = .bool := h5
        subst h5
        have := run_equalIn_bool' w 9999 t a b h2
        exact ⟨_, .bool (a != b), h, by simp only [Sem.run_bind, hg, Result.andThen_ok]; simp [binOp, Op.equal, Op.maxDepth, this, bne], .bool⟩
      · cases h
    · cases h
  · rename_i a b
    have e1 := RepP.strv hx
    have e2 := RepP.strv hy
    subst e1 e2
    have hg := run_eqGuard_plain (P := P) (w := w) op t xo yo (.string a) (.string b) (.inr (.inr ⟨_, rfl⟩))
    split at h
    · obtain ⟨h1, h⟩ := Ob_out h
      refine ⟨_, .string (a ++ b), h, ?_, .str (by rw [ByteArray.size_append]; unfold maxLen; omega)⟩
      simp only [Sem.run_bind, hg, Result.andThen_ok]
      have : ¬ (((a.size + b.size : Nat) : Int) > IntKind.i64.max) := by
        have : IntKind.i64.max = 9223372036854775807 := by decide
        omega
      simp only [binOp, Op.stringOp, if_neg this]
      rfl
    · exact ⟨_, _, h, by simp only [Sem.run_bind, hg, Result.andThen_ok]; simp [binOp, Op.stringOp], .bool⟩
    · exact ⟨_, .bool (a.toList != b.toList), h, by simp only [Sem.run_bind, hg, Result.andThen_ok]; simp [binOp, Op.stringOp, bne], .bool⟩
    · cases h
  · rename_i xs ys
    obtain ⟨cx, rfl, hcx⟩ := hx
    obtain ⟨cy, rfl, hcy⟩ := hy
    have main : ∀ ti b, Γ t = some ti → ti.agg = true → eqT Γ 6 t xs ys = some b → (eqGuard op t xo yo (.agg cx) (.agg cy)).run P w = .ok () w ∧ (Op.equalIn 10000 t (.agg cx) (.agg cy)).run P w = .ok b w := by
      intro ti b h1 ha hb
      have ht := hT t ti h1
      refine ⟨run_eqGuard_agg w op t xo yo cx cy ht.eqg, ?_⟩
      have hr : ∀ (ls : List (Lf E)) (cs : Array Value), RepL V w (FF c g) ls cs.toList → RepV V w (FF c g) ti ls (.agg cs) := by
        intro ls cs hc
        unfold RepV
        rw [ha]
        exact ⟨cs, rfl, fun i l hi hl => by obtain ⟨u, h2, h3⟩ := hc.2 i l hl; exact ⟨u, by rw [← Array.getElem?_toList]; exact h2, h3⟩⟩
      exact eqT_sound hT 6 t ti xs ys b _ _ h1 hb (hr xs cx hcx) (hr ys cy hcy) 10000 (by omega)
    split at h
    · obtain ⟨ti, h0, h⟩ := tyE_out h
      split at h
      · rename_i b ha hb
        obtain ⟨h1, h2⟩ := main ti b h0 ha hb
        refine ⟨_, .bool b, h, ?_, .bool⟩
        simp only [Sem.run_bind, h1, Result.andThen_ok, run_eql_struct, h2]
      · cases h
    · obtain ⟨ti, h0, h⟩ := tyE_out h
      split at h
      · rename_i b ha hb
        rw [neT_eq] at hb
        cases he : eqT Γ 6 t xs ys with
        | none => rw [he] at hb; cases hb
        | some b0 =>
          rw [he] at hb
          injection hb with hb
          obtain ⟨h1, h2⟩ := main ti b0 h0 ha he
          refine ⟨_, .bool (!b0), h, ?_, ?_⟩
          · simp only [Sem.run_bind, h1, Result.andThen_ok, run_neq_struct, h2]
          · rw [← hb]; exact .bool
      · cases h
    · cases h
  · cases h
theorem unE_sound {op : UnOp} {x : AV E} {K : AV E → Prop} (h : unE op x K) {ux : Value} (hx : RepA V c g s w x ux) : ∃ v u, K v ∧ (Op.unary op ux).run P w = .ok u w ∧ RepA V c g s w v u := by
  unfold unE at h
  split at h
  · have e := RepP.boolv hx
    subst e
    exact ⟨_, _, h, by simp [Op.unary], .bool⟩
  · rename_i k n lo hi
    obtain ⟨rfl, h1, h2⟩ := RepP.intv hx
    refine ⟨_, .int k (k.wrap (-n)), h, by simp [Op.unary, Op.intArith], wrL_rep ⟨fun a ha => ?_, fun b hb => ?_⟩⟩
    · cases hi with
      | none => cases ha
      | some x => simp at ha; have := h2.2 x rfl; omega
    · cases lo with
      | none => cases hb
      | some x => simp at hb; have := h2.1 x rfl; omega
  · rename_i k n lo hi
    obtain ⟨rfl, h1, h2⟩ := RepP.intv hx
    split at h
    · refine ⟨_, .int .i64 (bits .xor .i64 (-1) n), h, ?_, .int ⟨by rw [mnK_eq]; exact (bits_within _ _ _ _).1, by rw [mxK_eq]; exact (bits_within _ _ _ _).2⟩ (inB_none _)⟩
      have : IntKind.i64.signed = true := rfl
      simp only [Op.unary, this, if_true]
      exact run_intBits .xor .i64 (-1) n (by simp)
    · cases h
  · cases h
theorem bnd_max {x y : Int} {xl xh yl yh : Option Int} (hx : inB xl xh x) (hy : inB yl yh y) : inB (bnd mxI true xl yl) (bnd mxI false xh yh) (mxE x y) := by
  have hm : mxE x y = max x y := by unfold mxE; rw [Int.max_def]; split <;> split <;> omega
  rw [hm]
  refine ⟨fun a ha => ?_, fun b hb => ?_⟩
  · cases xl <;> cases yl <;> simp [bnd] at ha
    · have := hy.1 _ rfl; omega
    · have := hx.1 _ rfl; omega
    · rename_i p q
      have h1 := hx.1 _ rfl
      have h2 := hy.1 _ rfl
      subst ha
      unfold mxI
      by_cases h : p ≤ q <;> simp [h] <;> omega
  · cases xh <;> cases yh <;> simp [bnd] at hb
    rename_i p q
    have h1 := hx.2 _ rfl
    have h2 := hy.2 _ rfl
    have := mxI_ge p q
    omega
theorem bnd_min {x y : Int} {xl xh yl yh : Option Int} (hx : inB xl xh x) (hy : inB yl yh y) : inB (bnd mnI false xl yl) (bnd mnI true xh yh) (mnE x y) := by
  have hm : mnE x y = min x y := by unfold mnE; rw [Int.min_def]; split <;> split <;> omega
  rw [hm]
  refine ⟨fun a ha => ?_, fun b hb => ?_⟩
  · cases xl <;> cases yl <;> simp [bnd] at ha
    rename_i p q
    have h1 := hx.1 _ rfl
    have h2 := hy.1 _ rfl
    have := mnI_le p q
    omega
  · cases xh <;> cases yh <;> simp [bnd] at hb
    · have := hy.2 _ rfl; omega
    · have := hx.2 _ rfl; omega
    · rename_i p q
      have h1 := hx.2 _ rfl
      have h2 := hy.2 _ rfl
      subst hb
      unfold mnI
      by_cases h : p ≤ q <;> simp [h] <;> omega
theorem lim_mx {k : IntKind} {x y : Int} (hx : lim k x) (hy : lim k y) : lim k (mxE x y) := by unfold mxE; split <;> assumption
theorem lim_mn {k : IntKind} {x y : Int} (hx : lim k x) (hy : lim k y) : lim k (mnE x y) := by unfold mnE; split <;> assumption
end
end Go.Tx
set_option linter.unusedVariables false
set_option linter.unusedSimpArgs false
namespace Go.Tx
open Go.RowKit

section
variable {E : Env} {V : Lv E} {Γ : Nat → Option (TI E)} {P : Program} {c : Cx} {g g' : Gh} {s s0 : St E} {w w' : World} {a : Act} {o : Oper} {Q : Exit → Act → World → Prop} {Kc : Act → World → Prop}

def Ag (s s0 : St E) (ef : Ef E) : Prop := (∀ b ∈ ef.rb, s.bx b = s0.bx b) ∧ (∀ r ∈ ef.rr, s.rw r = s0.rw r)
/-- The state's memory behind an operation. -/
def mem (s : St E) (ef : Ef E) : St E := ⟨s.sl, updL s.bx ef.wb, updL s.rw ef.wr⟩
theorem fin_value {ef : Ef E} {v : Value} (hR : Rel V c g s a w) (hrun : (execOp a.eval o).run P w = .ok (.value v) w') (hm : RelG V c g' (mem s ef) w') (hl : Later c g g' s (mem s ef) w w') (hx : RepA V c g' (mem s ef) w' ef.v v)
    (hd : ∀ n, o.dst = some n → n < c.N) (hK : ∀ g' a' w', Rel V c g' (app s o ef) a' w' → Later c g g' s (mem s ef) w w' → Kc a' w') : o.wp P a w Kc Q := by
  unfold Oper.wp
  rw [hrun]
  refine hK g' _ _ ?_ hl
  have := Rel.put (fun _ _ => trivial) hm hl hR rfl hx hd
  cases s
  exact this
theorem fin_skip {ef : Ef E} (hR : Rel V c g s a w) (hrun : (execOp a.eval o).run P w = .ok .skip w') (hm : RelG V c g' (mem s ef) w') (hl : Later c g g' s (mem s ef) w w') (hv : ef.v = .f .any)
    (hd : ∀ n, o.dst = some n → n < c.N) (hK : ∀ g' a' w', Rel V c g' (app s o ef) a' w' → Later c g g' s (mem s ef) w w' → Kc a' w') : o.wp P a w Kc Q := by
  unfold Oper.wp
  rw [hrun]
  refine hK g' _ _ ?_ hl
  have := Rel.put (fun _ _ => trivial) hm hl hR rfl (d := o.dst) (x := ef.v) (v := undef) (by rw [hv]; trivial) hd
  cases s
  exact this
theorem mem_pu (s : St E) (rb rr : List Nat) (v : AV E) : mem s ⟨rb, rr, v, [], []⟩ = s := by cases s; rfl
theorem fin_pure {rb rr : List Nat} {x : AV E} {v : Value} (hR : Rel V c g s a w) (hrun : (execOp a.eval o).run P w = .ok (.value v) w) (hx : RepA V c g s w x v) (hd : ∀ n, o.dst = some n → n < c.N)
    (hK : ∀ g' a' w', Rel V c g' (app s o ⟨rb, rr, x, [], []⟩) a' w' → Later c g g' s (mem s ⟨rb, rr, x, [], []⟩) w w' → Kc a' w') : o.wp P a w Kc Q := by
  refine fin_value (ef := ⟨rb, rr, x, [], []⟩) (g' := g) hR hrun ?_ ?_ ?_ hd hK
  · rw [mem_pu]; exact hR.mem
  · rw [mem_pu]; exact Later.refl c g s w
  · rw [mem_pu]; exact hx
theorem Later.trans {g1 g2 : Gh} {s1 s2 : St E} {w1 w2 : World} (h : Later c g g1 s s1 w w1) (k : Later c g1 g2 s1 s2 w1 w2) : Later c g g2 s s2 w w2 := by
  refine ⟨fun q hq => k.Z q (h.Z q hq), fun q hq => (k.same q (h.F .lent q hq)).trans (h.same q hq), fun b x hx => ?_, fun r x hx => ?_⟩
  · obtain ⟨x1, a1, a2, a3⟩ := h.bx b x hx
    obtain ⟨x2, b1, b2, b3⟩ := k.bx b x1 a1
    exact ⟨x2, b1, by omega, fun e => (b3 (by omega)).trans (a3 (by omega))⟩
  · obtain ⟨x1, a1, a2, a3⟩ := h.rw r x hx
    obtain ⟨x2, b1, b2, b3⟩ := k.rw r x1 a1
    refine ⟨x2, b1, by omega, fun hl e => ?_⟩
    obtain ⟨c1, c2, c3, c4⟩ := b3 hl (by omega)
    obtain ⟨d1, d2, d3, d4⟩ := a3 c1 (by omega)
    exact ⟨d1, c2.trans d2, c3.trans d3, c4.trans d4⟩

/-! ## Loads -/
theorem valOf_one {t : TypeId} {ls : List (Lf E)} {K : AV E → Prop} (h : valOf Γ t ls K) : ∃ x, K x ∧ valOf Γ t ls (· = x) := by
  unfold valOf at h ⊢
  obtain ⟨ti, h1, h⟩ := tyE_out h
  cases ha : ti.agg with
  | true =>
    rw [ha] at h
    dsimp only at h
    cases hb : Nat.ble ti.size ls.length with
    | true => rw [hb] at h; exact ⟨_, h, by simp only [tyE, h1, ha, hb]⟩
    | false => rw [hb] at h; cases h
  | false =>
    rw [ha] at h
    cases ls with
    | nil => cases h
    | cons l r => exact ⟨_, h, by simp only [tyE, h1, ha]⟩
theorem loadE_sound (hV : LvOk V) (hT : TabOk P V Γ) {t : TypeId} {p : AV E} {K : Ef E → Prop} (h : loadE V Γ s0 t p K) :
    ∃ ef, K ef ∧ ef.wb = [] ∧ ef.wr = [] ∧ ∀ (c : Cx) (g : Gh) (s : St E) (w : World) (vp : Value), RelG V c g s w → Ag s s0 ef → RepA V c g s w p vp → ∃ v, (Instr.loadAt t vp).run P w = .ok v w ∧ RepA V c g s w ef.v v := by
  unfold loadE at h
  split at h
  · rename_i b gn off
    split at h
    · rename_i g' ty cells hb
      split at h
      · rename_i hg
        have hg := Nat.eq_of_beq_eq_true hg
        subst hg
        -- valOf tells one value
        have key : ∃ x, K ⟨[b], [], x, [], []⟩ ∧ valOf Γ t (cells.drop off) (· = x) := by exact valOf_one h
        obtain ⟨x, hk, hval⟩ := key
        refine ⟨_, hk, rfl, rfl, fun c g s w vp hm ha hp => ?_⟩
        obtain ⟨bx, h1, h2, h3⟩ := hp
        have hb' := ha.1 b (by simp)
        rw [hb'] at h1
        rw [hb] at h1
        injection h1 with h1
        subst h1
        have hvp := h3 rfl
        subst hvp
        obtain ⟨cs, h4, h5⟩ := hm.box b _ (hb'.trans hb)
        have hc : CellsAt V w (FF c g) (g.bb b) 0 cells := fun i l hi => by
          obtain ⟨u, h6, h7⟩ := h5.2 i l hi
          exact ⟨u, by rw [Nat.zero_add, cell_of_row w _ _ cs _ (0, 0) h4, ← Array.getElem?_toList]; exact h6, h7⟩
        have hc := hc.drop off
        rw [Nat.zero_add] at hc
        obtain ⟨x', v, h6, h7, h8⟩ := valOf_load (s := s) hT hval hc
        subst h6
        exact ⟨v, by simp [Instr.loadAt, Instr.sureAddr, h7], h8⟩
      · cases h
    · cases h
  · rename_i fr ls
    have key : ∃ x, K (pu x) ∧ valOf Γ t ls (· = x) := by exact valOf_one h
    obtain ⟨x, hk, hval⟩ := key
    refine ⟨_, hk, rfl, rfl, fun c g s w vp hm ha hp => ?_⟩
    obtain ⟨b, o, rfl, h1, h2⟩ := hp
    obtain ⟨x', v, h6, h7, h8⟩ := valOf_load (s := s) hT hval h2
    subst h6
    exact ⟨v, by simp [Instr.loadAt, Instr.sureAddr, h7], h8⟩
  · rename_i r vr i off
    split at h
    · rename_i ver' e t' xs hr
      split at h
      · rename_i hb
        have hb := Nat.eq_of_beq_eq_true hb
        have key : ∃ x, K ⟨[], [r], x, [], []⟩ ∧ valOf Γ t ((leaves V t' (xs.getD i.toNat (dflt E t'))).drop off) (· = x) := by exact valOf_one h
        obtain ⟨x, hk, hval⟩ := key
        refine ⟨_, hk, rfl, rfl, fun c g s w vp hm ha hp => ?_⟩
        obtain ⟨row, h1, h2, h3⟩ := hp
        have hr' := ha.2 r (by simp)
        rw [hr', hr] at h1
        injection h1 with h1
        subst h1
        obtain ⟨hi0, hi1, k, n, cap, h4, h5⟩ := h3 rfl hb.symm
        subst h5
        have hread := own_read (hm.row r _ (hr'.trans hr) rfl)
        obtain ⟨A, cap', e1, _, _, h6⟩ := hread
        rw [h4] at e1
        injection e1 with e1 e2 e3
        subst e1
        have hlt : i.toNat < xs.length := by have : i < (xs.length : Int) := hi1; omega
        have hget : xs[i.toNat]? = some (xs.getD i.toNat (dflt E t')) := by
          rw [List.getD_eq_getElem?_getD, List.getElem?_eq_getElem hlt]; rfl
        have hc : CellsAt V w (FF c g) k (i.toNat * tsz V t' + off) ((leaves V t' (xs.getD i.toNat (dflt E t'))).drop off) := by
          rcases h6 with h6 | ⟨b', o', e4, h6⟩
          · have h6 : xs = [] := h6
            rw [h6] at hlt; simp at hlt
          · injection e4 with e4
            injection e4 with e5 e6
            subst e5 e6
            intro q l hq
            rw [List.getElem?_drop] at hq
            obtain ⟨u, h7, h8⟩ := h6 i.toNat _ _ l hget hq
            refine ⟨u, ?_, ?_⟩
            · have h7 : w.cell? ⟨k, 0 + (i.toNat * tsz V t' + (off + q)), none⟩ = some u := h7
              rwa [show 0 + (i.toNat * tsz V t' + (off + q)) = i.toNat * tsz V t' + off + q by omega] at h7
            · rwa [leaves_true hV hq] at h8
        obtain ⟨x', v, h6, h7, h8⟩ := valOf_load (s := s) hT hval hc
        subst h6
        exact ⟨v, by simp [Instr.loadAt, Instr.sureAddr, h7], h8⟩
      · cases h
    · cases h
  · cases h

/-! ## What is stored -/
theorem RepL.one {F : Fr → Nat → Prop} {l : Lf E} {v : Value} (h : RepP V w F l v) : RepL V w F [l] v.cells.toList := by
  have : v.cells = #[v] := by cases h <;> rfl
  rw [this]
  refine ⟨rfl, fun i l' hi => ?_⟩
  cases i with
  | zero => injection hi with hi; subst hi; exact ⟨v, rfl, h⟩
  | succ i => simp at hi
theorem RepL.agg {F : Fr → Nat → Prop} {ls : List (Lf E)} {cs : Array Value} (h : RepL V w F ls cs.toList) : RepL V w F ls (Value.agg cs).cells.toList := h
theorem RepL.oneCell {F : Fr → Nat → Prop} {ls : List (Lf E)} {cs : List Value} (h : RepL V w F ls cs) : ∀ v ∈ cs, v.oneCell' = true := by
  intro v hv
  obtain ⟨i, hi⟩ := List.mem_iff_getElem?.1 hv
  have hil : i < ls.length := by rw [← h.1]; exact (List.getElem?_eq_some_iff.1 hi).1
  obtain ⟨u, h1, h2⟩ := h.2 i _ (List.getElem?_eq_getElem hil)
  rw [hi] at h1
  injection h1 with h1
  subst h1
  exact h2.one
theorem cellsOf_sound (hV : LvOk V) {z : List (Lf E)} {x : AV E} {K : List (Lf E) → List Nat → List (Nat × Rw E) → Prop} (h : cellsOf s0 z x K) :
    ∃ ls rr wr, K ls rr wr ∧ rr = keys wr ∧ ∀ (c : Cx) (g : Gh) (s : St E) (w : World) (v : Value), RelG V c g s w → (∀ r ∈ rr, s.rw r = s0.rw r) → RepA V c g s w x v →
      ∃ g', RelG V c g' ⟨s.sl, s.bx, updL s.rw wr⟩ w ∧ Later c g g' s ⟨s.sl, s.bx, updL s.rw wr⟩ w w ∧ RepL V w (FF c g') ls v.cells.toList := by
  unfold cellsOf at h
  split at h
  · refine ⟨_, _, _, h, rfl, fun c g s w v hm ha hx => ⟨g, ?_, ?_, RepL.one hx⟩⟩
    · cases s; exact hm
    · cases s; exact Later.refl c g _ w
  · refine ⟨_, _, _, h, rfl, fun c g s w v hm ha hx => ⟨g, ?_, ?_, ?_⟩⟩
    · cases s; exact hm
    · cases s; exact Later.refl c g _ w
    · obtain ⟨cs, rfl, hr⟩ := hx; exact hr
  · split at h
    · refine ⟨_, _, _, h, rfl, fun c g s w v hm ha hx => ⟨g, ?_, ?_, ?_⟩⟩
      · cases s; exact hm
      · cases s; exact Later.refl c g _ w
      · have : v = .slice none 0 0 := hx
        subst this
        exact RepL.one .nil
    · cases h
  · rename_i r vr
    split at h
    · rename_i ver' e t xs hr
      split at h
      · rename_i hb
        have hb := Nat.eq_of_beq_eq_true hb
        refine ⟨_, _, _, h, rfl, fun c g s w v hm ha hx => ?_⟩
        obtain ⟨row, h1, h2, h3⟩ := hx
        have hr' := ha r (by simp)
        rw [hr', hr] at h1
        injection h1 with h1
        subst h1
        have hv : v = g.rv r := h3 rfl hb.symm
        subst hv
        obtain ⟨g', k1, k2, k3⟩ := hm.sealRow hV (hr'.trans hr) rfl
        exact ⟨g', k1, k2, RepL.one k3⟩
      · cases h
    · cases h
  · cases h
theorem RepL.put {F : Fr → Nat → Prop} {cells ls : List (Lf E)} {cs vs : List Value} (hc : RepL V w F cells cs) (hl : RepL V w F ls vs) (off : Nat) (hoff : off + ls.length ≤ cells.length) :
    RepL V w F (putAt cells off ls) (cs.take off ++ vs ++ cs.drop (off + vs.length)) := by
  have h1 := hc.1
  have h2 := hl.1
  unfold putAt
  refine ⟨by simp; omega, fun i l hi => ?_⟩
  have ht : (cs.take off).length = off := by simp; omega
  have ht' : (cells.take off).length = off := by simp; omega
  rcases Nat.lt_or_ge i off with h | h
  · rw [List.append_assoc, List.getElem?_append_left (by omega), List.getElem?_take, if_pos h] at hi
    obtain ⟨u, h3, h4⟩ := hc.2 i l hi
    exact ⟨u, by rw [List.append_assoc, List.getElem?_append_left (by omega), List.getElem?_take, if_pos h]; exact h3, h4⟩
  · rcases Nat.lt_or_ge i (off + ls.length) with h' | h'
    · rw [List.append_assoc, List.getElem?_append_right (by omega), ht', List.getElem?_append_left (by omega)] at hi
      obtain ⟨u, h3, h4⟩ := hl.2 _ l hi
      exact ⟨u, by rw [List.append_assoc, List.getElem?_append_right (by omega), ht, List.getElem?_append_left (by omega)]; exact h3, h4⟩
    · rw [List.append_assoc, List.getElem?_append_right (by omega), ht', List.getElem?_append_right (by omega), List.getElem?_drop] at hi
      obtain ⟨u, h3, h4⟩ := hc.2 _ l hi
      refine ⟨u, ?_, h4⟩
      rw [List.append_assoc, List.getElem?_append_right (by omega), ht, List.getElem?_append_right (by omega), List.getElem?_drop, ← h3]
      congr 1
      omega
theorem run_storeVar {t : TypeId} {ti : TI E} (ht : TyOk P V t ti) {v : Value} {b o : Nat} {cur : Array Value} {ty : TypeId} (hs : v.cells.toList.length = ti.size) (hb : w.heap[b]? = some (.cells cur ty (0, 0))) (ho : o + v.cells.toList.length ≤ cur.size)
    (h1 : ∀ u ∈ v.cells.toList, u.oneCell' = true) : (Instr.storeAt t (.pointer (some ⟨b, o, none⟩)) v).run P w = .ok () (w.setRow b (cur.toList.take o ++ v.cells.toList ++ cur.toList.drop (o + v.cells.toList.length)).toArray) := by
  have h := run_storeCells_at (P := P) b o ty v.cells.toList 0 cur w hb (by omega) h1
  have hsz : v.cells.size = ti.size := by simpa using hs
  simp only [Instr.storeAt, Instr.sureAddr, storeVar, Sem.run_bind, Sem.run_pure, Result.andThen_ok, run_size ht, hsz, ne_eq, not_true_eq_false, if_false]
  simpa using h
end
end Go.Tx
set_option linter.unusedVariables false
set_option linter.unusedSimpArgs false
namespace Go.Tx
open Go.RowKit

section
variable {E : Env} {V : Lv E} {Γ : Nat → Option (TI E)} {P : Program} {c : Cx} {g g' : Gh} {s s0 : St E} {w w' : World} {a : Act}

theorem allTrue_mem {ls : List (Lf E)} (h : allTrue ls = true) {l : Lf E} (hl : l ∈ ls) : flag .made l = l := by
  induction ls with
  | nil => cases hl
  | cons x r ih =>
    cases x <;> simp only [allTrue, Bool.and_eq_true] at h <;> rcases List.mem_cons.1 hl with rfl | hl <;> first | rfl | exact ih h hl | exact ih h.2 hl | skip
    rename_i fr _ _
    cases fr <;> simp [Fr.isMade] at h
    rfl
theorem grown_setRow (w : World) (k : Nat) (cs : Array Value) : w.grownBy (w.setRow k cs) (some k) :=
  ⟨rfl, rfl, rfl, by rw [setRow_size]; exact Nat.le_refl _, fun q _ hq => setRow_other _ _ _ _ (fun e => hq (by rw [e]))⟩
/-- What becomes of memory at a store. -/
def StoreS (P : Program) (V : Lv E) (s0 : St E) (t : TypeId) (p x : AV E) (ef : Ef E) : Prop :=
  ∀ (c : Cx) (g : Gh) (s : St E) (w : World) (vp vx : Value), RelG V c g s w → Ag s s0 ef → RepA V c g s w p vp → RepA V c g s w x vx →
    ∃ w' g', (Instr.storeAt t vp vx).run P w = .ok () w' ∧ RelG V c g' (mem s ef) w' ∧ Later c g g' s (mem s ef) w w'
theorem store_box {t : TypeId} {ti : TI E} (ht : TyOk P V t ti) {x : AV E} {b gn off : Nat} {ty : TypeId} {cells ls : List (Lf E)} {rr : List Nat} {wr : List (Nat × Rw E)} (hlen : ls.length = ti.size) (hb : s0.bx b = some ⟨gn, ty, cells⟩) (hoff : off + ls.length ≤ cells.length)
    (hc : ∀ (c : Cx) (g : Gh) (s : St E) (w : World) (v : Value), RelG V c g s w → (∀ r ∈ rr, s.rw r = s0.rw r) → RepA V c g s w x v →
      ∃ g', RelG V c g' ⟨s.sl, s.bx, updL s.rw wr⟩ w ∧ Later c g g' s ⟨s.sl, s.bx, updL s.rw wr⟩ w w ∧ RepL V w (FF c g') ls v.cells.toList) :
    StoreS P V s0 t (.f (.ptr b gn off)) x ⟨[b], rr, .f .any, [(b, ⟨gn, ty, putAt cells off ls⟩)], wr⟩ := by
  intro c g s w vp vx hm ha hp hx
  obtain ⟨g1, m1, l1, r1⟩ := hc c g s w vx hm ha.2 hx
  have hb' := ha.1 b (by simp)
  obtain ⟨bx, k1, k2, k3⟩ := hp
  rw [hb', hb] at k1
  injection k1 with k1
  subst k1
  have hvp := k3 rfl
  subst hvp
  have hb1 : (⟨s.sl, s.bx, updL s.rw wr⟩ : St E).bx b = some ⟨gn, ty, cells⟩ := hb'.trans hb
  obtain ⟨y, y1, y2, y3⟩ := l1.bx b _ (hb'.trans hb)
  rw [hb1] at y1
  injection y1 with y1
  subst y1
  have hbb : g1.bb b = g.bb b := y3 rfl
  obtain ⟨cs, q1, q2⟩ := m1.box b _ hb1
  have hcs : cs.size = cells.length := by have := q2.1; simpa using this
  have hvl : vx.cells.toList.length = ls.length := r1.1
  have hrun := run_storeVar (P := P) ht (v := vx) (b := g.bb b) (o := off) (w := w) (cur := cs) (ty := ty) (by omega) (by rw [← hbb]; exact q1) (by omega) r1.oneCell
  obtain ⟨m2, l2⟩ := m1.storeBox hb1 (ls := putAt cells off ls) (cs.toList.take off ++ vx.cells.toList ++ cs.toList.drop (off + vx.cells.toList.length)).toArray (q2.put r1 off hoff)
  rw [hbb] at m2 l2
  exact ⟨_, g1, hrun, m2, l1.trans l2⟩
theorem seg_get {α : Type} {cur vs : List α} {o n : Nat} (ho : o + vs.length ≤ cur.length) :
    (cur.take o ++ vs ++ cur.drop (o + vs.length))[n]? = if n < o then cur[n]? else if n < o + vs.length then vs[n - o]? else cur[n]? := by
  have ht : (cur.take o).length = o := by simp; omega
  rw [List.append_assoc]
  by_cases h : n < o
  · rw [List.getElem?_append_left (by omega), List.getElem?_take, if_pos h, if_pos h]
  · rw [List.getElem?_append_right (by omega), ht, if_neg h]
    by_cases h' : n < o + vs.length
    · rw [List.getElem?_append_left (by omega), if_pos h']
    · rw [List.getElem?_append_right (by omega), List.getElem?_drop, if_neg h']
      congr 1
      omega
theorem updL_nil {α : Type} (f : Nat → Option α) : updL f [] = f := rfl
theorem store_elem (hV : LvOk V) {t : TypeId} {ti : TI E} (ht : TyOk P V t ti) {x : AV E} {r vr off : Nat} {i : Int} {e : TypeId} {t' : Ty} {xs : List (El E t')} {ls : List (Lf E)} {rr : List Nat} (hlen : ls.length = ti.size)
    (hr : s0.rw r = some ⟨true, vr, e, t', xs⟩) (hat : allTrue ls = true)
    (hob : leaves V t' (mkEl V t' (putAt (leaves V t' (xs.getD i.toNat (dflt E t'))) off ls)) = (putAt (leaves V t' (xs.getD i.toNat (dflt E t'))) off ls).map fgt)
    (hc : ∀ (c : Cx) (g : Gh) (s : St E) (w : World) (v : Value), RelG V c g s w → (∀ r ∈ rr, s.rw r = s0.rw r) → RepA V c g s w x v →
      ∃ g', RelG V c g' ⟨s.sl, s.bx, updL s.rw []⟩ w ∧ Later c g g' s ⟨s.sl, s.bx, updL s.rw []⟩ w w ∧ RepL V w (FF c g') ls v.cells.toList) :
    StoreS P V s0 t (.f (.eptr r vr i off)) x ⟨[], r :: rr, .f .any, [], [(r, ⟨true, vr, e, t', xs.set i.toNat (mkEl V t' (putAt (leaves V t' (xs.getD i.toNat (dflt E t'))) off ls))⟩)]⟩ := by
  intro c g s w vp vx hm ha hp hx
  obtain ⟨g1, m1, l1, r1⟩ := hc c g s w vx hm (fun q hq => ha.2 q (List.mem_cons_of_mem _ hq)) hx
  obtain ⟨row, k1, k2, k3⟩ := hp
  have hr' := ha.2 r (by simp)
  rw [hr', hr] at k1
  injection k1 with k1
  subst k1
  obtain ⟨hi0, hi1, k, n, cap, k4, k5⟩ := k3 rfl rfl
  subst k5
  have hi1 : i < (xs.length : Int) := hi1
  have hrs : (⟨s.sl, s.bx, updL s.rw []⟩ : St E).rw r = some ⟨true, vr, e, t', xs⟩ := hr'.trans hr
  obtain ⟨y, y1, y2, y3⟩ := l1.rw r _ (hr'.trans hr)
  rw [hrs] at y1
  injection y1 with y1
  subst y1
  obtain ⟨_, hrv, _, _⟩ := y3 rfl rfl
  rw [← hrv] at k4
  obtain ⟨cells, ho, hel, hsz⟩ := m1.row r _ hrs rfl
  have hsz : 0 < tsz V t' := hsz
  have hel : ElRep V w (FF c g1) t' xs cells := hel
  have ho' := ho
  rw [k4] at ho
  rcases ho.2 with ⟨e1, _⟩ | ⟨b, cap', cur, e1, e2, hh, h6, h7, h8, h9⟩
  · cases e1
  have e1' := e1
  injection e1 with e3 e4 e5
  injection e3 with e3
  injection e3 with e3 _
  subst e3 e4 e5
  have h6 : xs.length ≤ cap := h6
  have h8 : cur.size = cap * tsz V t' := h8
  have h9 : cur.toList.take (xs.length * tsz V t') = cells := h9
  have hlt : i.toNat < xs.length := by omega
  have hget : xs[i.toNat]? = some (xs.getD i.toNat (dflt E t')) := by rw [List.getD_eq_getElem?_getD, List.getElem?_eq_getElem hlt]; rfl
  generalize hx0 : xs.getD i.toNat (dflt E t') = x0 at *
  have hl0 : (leaves V t' x0).length = tsz V t' := leaves_len hV t' x0
  have hvl : vx.cells.toList.length = ls.length := r1.1
  have hvl2 : vx.cells.size = ls.length := by simpa using hvl
  have hnew : (leaves V t' (mkEl V t' (putAt (leaves V t' x0) off ls))).length = tsz V t' := leaves_len hV _ _
  have hoff : off + ls.length ≤ tsz V t' := by
    rw [hob, List.length_map] at hnew
    unfold putAt at hnew
    simp only [List.length_append, List.length_take, List.length_drop, hl0] at hnew
    have := ht.pos.1
    rcases Nat.le_total off (tsz V t') with h | h
    · rw [Nat.min_eq_left h] at hnew; omega
    · rw [Nat.min_eq_right h] at hnew; omega
  have hmul : (i.toNat + 1) * tsz V t' ≤ xs.length * tsz V t' := Nat.mul_le_mul_right _ hlt
  have hmul2 : xs.length * tsz V t' ≤ cap * tsz V t' := Nat.mul_le_mul_right _ h6
  rw [Nat.add_mul, Nat.one_mul] at hmul
  have hrun := run_storeVar (P := P) ht (v := vx) (b := k) (o := i.toNat * tsz V t' + off) (w := w) (cur := cur) (ty := e) (by omega) hh (by omega) r1.oneCell
  generalize hcur : (cur.toList.take (i.toNat * tsz V t' + off) ++ vx.cells.toList ++ cur.toList.drop (i.toNat * tsz V t' + off + vx.cells.toList.length)) = cl at hrun
  have hclen : cl.length = cur.size := by
    rw [← hcur]; simp only [List.length_append, List.length_take, List.length_drop, Array.length_toList]; omega
  have hseg : ∀ q, cl[q]? = if q < i.toNat * tsz V t' + off then cur[q]? else if q < i.toNat * tsz V t' + off + vx.cells.toList.length then vx.cells.toList[q - (i.toNat * tsz V t' + off)]? else cur[q]? := by
    intro q
    rw [← hcur, seg_get (by simp only [Array.length_toList]; omega)]
    simp only [Array.getElem?_toList]
  have hcell : ∀ q u, q < xs.length * tsz V t' → (cells[q]? = some u ↔ cur[q]? = some u) := by
    intro q u hq
    rw [← h9, List.getElem?_take, if_pos hq, Array.getElem?_toList]
  have hTi : ∀ j q, j < xs.length → q < tsz V t' → j * tsz V t' + q < xs.length * tsz V t' := by
    intro j q hj hq
    have : (j + 1) * tsz V t' ≤ xs.length * tsz V t' := Nat.mul_le_mul_right _ hj
    rw [Nat.add_mul, Nat.one_mul] at this
    omega
  have hFw : ∀ q, FF c g1 .made q → FF c g1 .lent q := fun q => FF.weak q
  have hown' : (w.setRow k cl.toArray).ownsRow c.w0.heap.size e (tsz V t') (g1.rv r) (xs.set i.toNat (mkEl V t' (putAt (leaves V t' x0) off ls))).length (cl.take (xs.length * tsz V t')) := by
    rw [k4]
    refine ⟨?_, .inr ⟨k, cap, cl.toArray, by simp, e2, setRow_heap _ _ _ _ _ _ hh, by simpa using h6, h7, ?_, ?_⟩⟩
    · simp only [List.length_take, List.length_set]; omega
    · simp only [List.size_toArray, hclen]; exact h8
    · simp only [List.length_set]
  have hel' : ElRep V w (FF c g1) t' (xs.set i.toNat (mkEl V t' (putAt (leaves V t' x0) off ls))) (cl.take (xs.length * tsz V t')) := by
    intro j y q l hj hq
    have hqT := leaves_lt hV hq
    have hjl : j < xs.length := by have := (List.getElem?_eq_some_iff.1 hj).1; simpa using this
    have hjq := hTi j q hjl hqT
    rw [List.getElem?_take, if_pos hjq, hseg]
    by_cases hji : j = i.toNat
    · subst hji
      have hy : y = mkEl V t' (putAt (leaves V t' x0) off ls) := by
        have hj : (xs.set i.toNat (mkEl V t' (putAt (leaves V t' x0) off ls)))[i.toNat]? = some y := hj
        rw [List.getElem?_set_self hlt] at hj
        injection hj with hj
        exact hj.symm
      subst hy
      have hq : (leaves V t' (mkEl V t' (putAt (leaves V t' x0) off ls)))[q]? = some l := hq
      rw [hob, List.getElem?_map] at hq
      obtain ⟨l0, hq0, hl⟩ := Option.map_eq_some_iff.1 hq
      subst hl
      unfold putAt at hq0
      rw [seg_get (by omega)] at hq0
      have hoc : ∀ l0, (leaves V t' x0)[q]? = some l0 → ∃ u, cur[i.toNat * tsz V t' + q]? = some u ∧ RepP V w (FF c g1) (flag .made (fgt l0)) u := by
        intro l0 hq0
        obtain ⟨u, h10, h11⟩ := hel i.toNat x0 q l0 hget hq0
        refine ⟨u, (hcell _ _ hjq).1 h10, ?_⟩
        rw [flag_fgt]
        exact h11.fgt
      by_cases hA : q < off
      · rw [if_pos hA] at hq0
        rw [if_pos (by omega)]
        exact hoc l0 hq0
      · rw [if_neg hA] at hq0
        rw [if_neg (by omega)]
        by_cases hB : q < off + ls.length
        · rw [if_pos hB] at hq0
          rw [if_pos (by omega)]
          obtain ⟨u, h10, h11⟩ := r1.2 _ l0 hq0
          refine ⟨u, ?_, ?_⟩
          · rw [← h10]; congr 1; omega
          · rw [flag_fgt, allTrue_mem hat (List.mem_of_getElem? hq0)]
            exact h11.fgt
        · rw [if_neg hB] at hq0
          rw [if_neg (by omega)]
          exact hoc l0 hq0
    · have hy : xs[j]? = some y := by
        have hj : (xs.set i.toNat (mkEl V t' (putAt (leaves V t' x0) off ls)))[j]? = some y := hj
        rw [List.getElem?_set_ne (fun e => hji e.symm)] at hj
        exact hj
      obtain ⟨u, h10, h11⟩ := hel j y q l hy hq
      refine ⟨u, ?_, h11⟩
      have h10 := (hcell _ _ hjq).1 h10
      rcases Nat.lt_or_gt_of_ne hji with h | h
      · have : (j + 1) * tsz V t' ≤ i.toNat * tsz V t' := Nat.mul_le_mul_right _ h
        rw [Nat.add_mul, Nat.one_mul] at this
        rw [if_pos (by omega)]
        exact h10
      · have : (i.toNat + 1) * tsz V t' ≤ j * tsz V t' := Nat.mul_le_mul_right _ h
        rw [Nat.add_mul, Nat.one_mul] at this
        rw [if_neg (by omega), if_neg (by omega)]
        exact h10
  obtain ⟨m2, l2, _⟩ := m1.turnRow (w' := w.setRow k cl.toArray) (row' := ⟨true, vr, e, t', xs.set i.toNat (mkEl V t' (putAt (leaves V t' x0) off ls))⟩) hrs rfl rfl (g1.rv r) (by rw [k4]; exact grown_setRow w k _) (cl.take (xs.length * tsz V t')) hown' hel' hsz (.inl rfl) (.inr ⟨rfl, rfl, by simp, rfl⟩)
  exact ⟨_, setRV g1 r (g1.rv r), hrun, m2, l1.trans l2⟩
theorem storeE_sound (hV : LvOk V) (hT : TabOk P V Γ) {t : TypeId} {p x : AV E} {K : Ef E → Prop} (h : storeE V Γ s0 t p x K) : ∃ ef, K ef ∧ ef.v = .f .any ∧ StoreS P V s0 t p x ef := by
  unfold storeE at h
  have ⟨ti, h1, h2⟩ := tyE_out h
  clear h
  have ht := hT t ti h1
  have ⟨ls, rr, wr, h3, hkr, hc⟩ := cellsOf_sound hV h2
  clear h2
  have ⟨hlen, h4⟩ := cM_out h3
  clear h3
  have hlen := Nat.eq_of_beq_eq_true hlen
  split at h4
  · rename_i b gn off
    split at h4
    · rename_i g' ty cells hb
      split at h4
      · rename_i hg hoff
        have hg := Nat.eq_of_beq_eq_true hg
        have hoff := Nat.le_of_ble_eq_true hoff
        subst hg
        exact ⟨_, h4, rfl, store_box ht hlen hb hoff hc⟩
      · cases h4
    · cases h4
  · rename_i r vr i off
    split at h4
    · rename_i ver' e t' xs hr
      split at h4
      · rename_i hb hat
        have hb := Nat.eq_of_beq_eq_true hb
        subst hb
        have ⟨hob, h5⟩ := Ob_out h4
        exact ⟨_, h5, rfl, store_elem hV ht hlen hr hat hob hc⟩
      · cases h4
    · cases h4
  · cases h4
end
end Go.Tx
set_option linter.unusedVariables false
set_option linter.unusedSimpArgs false
namespace Go.Tx
open Go.RowKit

section
variable {E : Env} {V : Lv E} {Γ : Nat → Option (TI E)} {P : Program} {c : Cx} {g g' : Gh} {s s0 : St E} {w w' : World} {a : Act}

theorem alloc_below (w : World) (o : Obj) : Below w.heap.size w (w.alloc o) := (Below.refl _ _).alloc (Nat.le_refl _) o
theorem alloc_at (w : World) (o : Obj) : (w.alloc o).heap[w.heap.size]? = some o := by
  show (w.heap.push o)[w.heap.size]? = some o
  simp
/-- A new variable. -/
theorem RelG.newBox (h : RelG V c g s w) (b : Nat) (ty : TypeId) (ls : List (Lf E)) (cs : Array Value) (hr : RepL V w (FF c g) ls cs.toList) :
    ∃ g', RelG V c g' ⟨s.sl, upd s.bx b (some ⟨gen s b, ty, ls⟩), s.rw⟩ (w.alloc (.cells cs ty)) ∧ Later c g g' s ⟨s.sl, upd s.bx b (some ⟨gen s b, ty, ls⟩), s.rw⟩ w (w.alloc (.cells cs ty)) ∧
      RepF V c g' ⟨s.sl, upd s.bx b (some ⟨gen s b, ty, ls⟩), s.rw⟩ (w.alloc (.cells cs ty)) (.ptr b (gen s b) 0) (.pointer (some ⟨w.heap.size, 0, none⟩)) := by
  have hb := alloc_below w (.cells cs ty)
  obtain ⟨m1, l1⟩ := h.grow hb
  obtain ⟨m2, l2, r2⟩ := m1.adoptBox b w.heap.size ty ls cs (alloc_at _ _) (hr.move (fun _ _ h => h) (fun b' k hk => l1.S b' k hk)) h.size (fun hz => by have := (h.zed _ hz).2; omega)
    (fun b' bx _ hb' e => by have := h.boxLt hb'; omega) (fun r row hr' hl e => by have := (h.rowLt hr' hl e).2.1; omega)
  exact ⟨_, m2, l1.trans l2, r2⟩
/-- A new row. -/
theorem RelG.newRow (h : RelG V c g s w) (r : Nat) (e : TypeId) (t : Ty) (xs : List (El E t)) (cs : Array Value) (hs : 0 < tsz V t) (hl : cs.size = xs.length * tsz V t) (hm : xs.length ≤ maxLen) (hel : ElRep V w (FF c g) t xs cs.toList) :
    ∃ g', RelG V c g' ⟨s.sl, s.bx, upd s.rw r (some ⟨true, ver s r, e, t, xs⟩)⟩ (w.alloc (.cells cs e)) ∧ Later c g g' s ⟨s.sl, s.bx, upd s.rw r (some ⟨true, ver s r, e, t, xs⟩)⟩ w (w.alloc (.cells cs e)) ∧
      RepF V c g' ⟨s.sl, s.bx, upd s.rw r (some ⟨true, ver s r, e, t, xs⟩)⟩ (w.alloc (.cells cs e)) (.own r (ver s r) none) (.slice (some ⟨w.heap.size, 0, none⟩) xs.length xs.length) := by
  have hb := alloc_below w (.cells cs e)
  obtain ⟨m1, l1⟩ := h.grow hb
  obtain ⟨m2, l2, r2⟩ := m1.adoptRow r (.slice (some ⟨w.heap.size, 0, none⟩) xs.length xs.length) e t xs cs.toList hs
    ⟨by simpa using hl, .inr ⟨w.heap.size, xs.length, cs, rfl, h.size, alloc_at _ _, Nat.le_refl _, hm, hl, by rw [← hl]; exact List.take_of_length_le (by simp)⟩⟩
    (hel.move (fun _ _ h => h) (fun b' k hk => l1.S b' k hk)) (fun k hk hz => by simp [Value.ownBlock] at hk; have := (h.zed _ hz).2; omega)
    (fun k b bx hk hb' e => by simp [Value.ownBlock] at hk; have := h.boxLt hb'; omega) (fun k r' row hk _ hr' hl e => by simp [Value.ownBlock] at hk; have := (h.rowLt hr' hl e).2.1; omega)
  exact ⟨_, m2, l1.trans l2, r2⟩
theorem run_alloc {e : TypeId} {te : TI E} (ht : TyOk P V e te) (w : World) : ∃ z : Value, (Instr.alloc e true (.tuple #[])).run P w = .ok (.pointer (some ⟨w.heap.size, 0, none⟩)) (w.alloc (.cells z.cells e)) ∧ ∀ F, RepL V w F te.zero z.cells.toList := by
  obtain ⟨i, z, h1, h2, h3, h4, _, _, h7, _⟩ := ht.i
  refine ⟨z, ?_, fun F => h7 w F⟩
  simp [Instr.alloc, zeroValue, typeInfo, h1, h4, newVar, newRow]
theorem run_box (e : TypeId) (v : Value) (w : World) : (Instr.box e v).run P w = .ok (.pointer (some ⟨w.heap.size, 0, none⟩)) (w.alloc (.cells v.cells e)) := by
  simp [Instr.box, newVar, newRow]
/-! ## What is built -/
theorem fill_step {place : Nat → Option (Nat × Nat)} {cells : Array Value} {i off size : Nat} {v : Value} {rest : List (Nat × Value)} (hp : place i = some (off, size)) (hs : v.cells.size = size) (ho : off + size ≤ cells.size) :
    ∃ cells' : Array Value, Instr.fill place cells ((i, v) :: rest) = Instr.fill place cells' rest ∧ cells'.toList = cells.toList.take off ++ v.cells.toList ++ cells.toList.drop (off + v.cells.toList.length) := by
  obtain ⟨h1, h2⟩ := Great.foldl_set off v.cells.toList 0 cells
  refine ⟨(v.cells.toList.zipIdx 0).foldl (fun cs (x : Value × Nat) => cs.setIfInBounds (off + x.2) x.1) cells, ?_, ?_⟩
  · conv => lhs; unfold Instr.fill
    simp only [hp, hs]
    rw [if_neg (by simp; omega)]
    congr 1
    rw [← Array.foldl_toList]
    simp
  · apply List.ext_getElem?
    intro k
    rw [Array.getElem?_toList, h2 k, seg_get (by simp only [Array.length_toList, hs]; omega)]
    simp only [Nat.add_zero, Array.length_toList, hs, Array.getElem?_toList]
    by_cases hA : k < off
    · rw [if_neg (by omega), if_pos hA]
    · rw [if_neg hA]
      by_cases hB : k < off + size
      · rw [if_pos (by omega), if_pos hB]
      · rw [if_neg (by omega), if_neg hB]
/-- Where parts lie, as the model has it. -/
def PlaceOk (P : Program) (k : TK) (place : Nat → Option (Nat × Nat)) : Prop := ∀ (Γ : Nat → Option (TI E)) (V : Lv E) (i : Nat) (K : Nat → TypeId → Prop), TabOk P V Γ → placeE Γ k i K → ∃ o u, K o u ∧ ∀ ti, Γ u = some ti → place i = some (o, ti.size)
/-- The operands' values, beside the operands. -/
inductive Vals (V : Lv E) (c : Cx) (g : Gh) (s : St E) (w : World) (s0 : St E) : List (Nat × Operand) → List (Nat × Value) → Prop where
  | nil : Vals V c g s w s0 [] []
  | cons {i x v r rv} (h : RepA V c g s w (ev s0 x) v) (hr : Vals V c g s w s0 r rv) : Vals V c g s w s0 ((i, x) :: r) ((i, v) :: rv)
theorem Vals.later {s' : St E} {r : List (Nat × Operand)} {rv : List (Nat × Value)} (h : Vals V c g s w s0 r rv) (hl : Later c g g' s s' w w') : Vals V c g' s' w' s0 r rv := by
  induction h with
  | nil => exact .nil
  | cons h _ ih => exact .cons (RepA.later hl h) ih
theorem updL_append {α : Type} (f : Nat → Option α) : ∀ (a b : List (Nat × α)), updL f (a ++ b) = updL (updL f b) a
  | [], b => rfl
  | (n, x) :: r, b => by simp only [List.cons_append, updL, updL_append f r b]
theorem updL_ne {α : Type} (f : Nat → Option α) : ∀ (a : List (Nat × α)) (n : Nat), n ∉ keys a → updL f a n = f n
  | [], n, _ => rfl
  | (m, x) :: r, n, h => by
    simp only [keys, List.mem_cons, not_or] at h
    simp only [updL]
    rw [upd_ne _ _ h.1, updL_ne f r n h.2]
theorem keys_append {α : Type} : ∀ (a b : List (Nat × α)), keys (a ++ b) = keys a ++ keys b
  | [], b => rfl
  | (n, x) :: r, b => by simp only [List.cons_append, keys, keys_append r b]
theorem nodup_append {a b : List Nat} (h : nodup (a ++ b) = true) : nodup a = true ∧ ∀ n ∈ b, n ∉ a := by
  induction a with
  | nil => exact ⟨rfl, fun _ _ h => by cases h⟩
  | cons x r ih =>
    simp only [List.cons_append, nodup, Bool.and_eq_true, Bool.not_eq_true'] at h
    obtain ⟨h1, h2⟩ := h
    obtain ⟨h3, h4⟩ := ih h2
    have hx : ∀ y ∈ r ++ b, y ≠ x := fun y hy e => by
      have := List.any_eq_false.1 h1 y hy
      subst e
      exact this (Nat.beq_refl y)
    refine ⟨?_, fun n hn => ?_⟩
    · simp only [nodup, Bool.and_eq_true, Bool.not_eq_true']
      refine ⟨List.any_eq_false.2 fun y hy e => hx y (List.mem_append_left _ hy) (Nat.eq_of_beq_eq_true e).symm, h3⟩
    · simp only [List.mem_cons, not_or]
      exact ⟨hx n (List.mem_append_right _ hn), h4 n hn⟩
theorem fill_sound (hV : LvOk V) (hT : TabOk P V Γ) {k : TK} {place : Nat → Option (Nat × Nat)} (hp : PlaceOk (E := E) P k place) : ∀ (parts : List (Nat × Operand)) (cells : List (Lf E)) (K : List (Lf E) → List Nat → List (Nat × Rw E) → Prop), fillE Γ s0 k cells parts K →
    ∃ cs rr wr, K cs rr wr ∧ (∀ r, r ∈ rr ↔ r ∈ keys wr) ∧ (nodup (keys wr) = true → ∀ (c : Cx) (g : Gh) (s : St E) (w : World) (ca : Array Value) (vals : List (Nat × Value)), RelG V c g s w → (∀ r ∈ rr, s.rw r = s0.rw r) → RepL V w (FF c g) cells ca.toList →
      Vals V c g s w s0 parts vals → ∃ g' ca', Instr.fill place ca vals = some ca' ∧ RelG V c g' ⟨s.sl, s.bx, updL s.rw wr⟩ w ∧ Later c g g' s ⟨s.sl, s.bx, updL s.rw wr⟩ w w ∧ RepL V w (FF c g') cs ca'.toList) := by
  intro parts
  induction parts with
  | nil =>
    intro cells K h
    refine ⟨_, _, _, h, fun r => by simp [keys], fun _ c g s w ca vals hm _ hr hv => ?_⟩
    cases hv
    refine ⟨g, ca, rfl, ?_, ?_, hr⟩
    · cases s; exact hm
    · cases s; exact Later.refl c g _ w
  | cons px r ih =>
    intro cells K h
    obtain ⟨i, x⟩ := px
    simp only [fillE] at h
    obtain ⟨off, u, h1, hpl⟩ := hp Γ V i _ hT h
    clear h
    obtain ⟨ti, hu, h2⟩ := tyE_out h1
    clear h1
    have ht := hT u ti hu
    obtain ⟨ls, rr, wr, h3, hkr, hc⟩ := cellsOf_sound hV h2
    clear h2
    subst hkr
    split at h3
    · rename_i hl ho
      have hl := Nat.eq_of_beq_eq_true hl
      have ho := Nat.le_of_ble_eq_true ho
      obtain ⟨cs, rr', wr', h4, hk', hrest⟩ := ih _ _ h3
      refine ⟨cs, _, _, h4, fun q => ?_, fun hnd c g s w ca vals hm ha hr hv => ?_⟩
      · rw [keys_append]; simp only [List.mem_append, hk' q]; exact Or.comm
      · rw [keys_append] at hnd
        obtain ⟨hnd1, hnd2⟩ := nodup_append hnd
        cases hv with
        | cons hx hvr =>
          rename_i v rv
          obtain ⟨g1, m1, l1, r1⟩ := hc c g s w v hm (fun q hq => ha q (List.mem_append_left _ hq)) hx
          have hvl : v.cells.toList.length = ls.length := r1.1
          have hcl : ca.toList.length = cells.length := hr.1
          have hvs : v.cells.size = ti.size := by simp only [Array.length_toList] at hvl; omega
          obtain ⟨ca1, hf, hca⟩ := fill_step (rest := rv) (hpl ti hu) hvs (cells := ca) (by simp only [Array.length_toList] at hcl; omega)
          have hr1 : RepL V w (FF c g1) (putAt cells off ls) ca1.toList := by
            rw [hca]
            exact (hr.move l1.F l1.S).put r1 off ho
          have hag : ∀ q ∈ rr', (⟨s.sl, s.bx, updL s.rw wr⟩ : St E).rw q = s0.rw q := fun q hq => by
            have hq' := (hk' q).1 hq
            show updL s.rw wr q = s0.rw q
            rw [updL_ne _ _ _ (fun hm => hnd2 q hm hq')]
            exact ha q (List.mem_append_right _ hq)
          obtain ⟨g2, ca2, k1, k2, k3, k4⟩ := hrest hnd1 c g1 ⟨s.sl, s.bx, updL s.rw wr⟩ w ca1 rv m1 hag hr1 (hvr.later l1)
          refine ⟨g2, ca2, by rw [hf]; exact k1, ?_, ?_, k4⟩
          · rw [updL_append]; exact k2
          · rw [updL_append]; exact l1.trans k3
    · cases h3
end
end Go.Tx
set_option linter.unusedVariables false
set_option linter.unusedSimpArgs false
namespace Go.Tx
open Go.RowKit

section
variable {E : Env} {V : Lv E} {Γ : Nat → Option (TI E)} {P : Program} {c : Cx} {g g' : Gh} {s s0 : St E} {w w' : World} {a : Act}

theorem mapM_some {α β : Type} (f : α → Option β) : ∀ l : List α, (∀ x ∈ l, (f x).isSome = true) → ∃ r : List β, l.mapM f = some r ∧ ∀ (i : Nat) (x : α), l[i]? = some x → r[i]? = f x
  | [], _ => ⟨[], rfl, fun i x h => by simp at h⟩
  | x :: l, h => by
    obtain ⟨r, h1, h2⟩ := mapM_some f l (fun y hy => h y (List.mem_cons_of_mem _ hy))
    obtain ⟨y, hy⟩ := Option.isSome_iff_exists.1 (h x List.mem_cons_self)
    refine ⟨y :: r, by simp [List.mapM_cons, hy, h1], fun i z hz => ?_⟩
    cases i with
    | zero => simp at hz; subst hz; simp [hy]
    | succ i => simp at hz ⊢; exact h2 i z hz
theorem build_place {t : TypeId} {ti : TI E} (ht : TyOk P V t ti) (hag : ti.agg = true) : ∃ (place : Nat → Option (Nat × Nat)) (z : Array Value), PlaceOk (E := E) P ti.k place ∧ (∀ w F, RepL V w F ti.zero z.toList) ∧
    ∀ (parts : Array (Nat × Value)) (cs : Array Value) (w : World), Instr.fill place z parts.toList = some cs → (Instr.build t parts).run P w = .ok (.agg cs) w := by
  obtain ⟨d, h1, h2, h3, _⟩ := ht.d
  obtain ⟨i, z, h4, h5, h6, h7, _, _, h8, _⟩ := ht.i
  rw [hag] at h2
  cases hk : ti.k with
  | basic => rw [hk] at h3; have h3 : aggD d = false := h3; rw [h3] at h2; cases h2
  | slice e => rw [hk] at h3; have h3 : d = .slice e := h3; rw [h3] at h2; cases h2
  | struct fs =>
    rw [hk] at h3
    obtain ⟨fields, rfl, hsz, hf⟩ := h3
    obtain ⟨places, hp, hpi⟩ := mapM_some (fun f : Field => (P.info? f.type).map fun i => (f.offset, i.size)) fields.toList (fun f hfm => by
      obtain ⟨q, hq⟩ := List.mem_iff_getElem?.1 hfm
      have hql : q < fs.length := by rw [← hsz]; have := (List.getElem?_eq_some_iff.1 hq).1; simpa using this
      obtain ⟨f', k1, k2, k3, _, iu, k5, _⟩ := hf q _ _ (List.getElem?_eq_getElem hql)
      rw [Array.getElem?_toList, k1] at hq
      injection hq with hq
      subst hq
      rw [k3, k5]; rfl)
    refine ⟨(places.toArray[·]?), z.cells, fun Γ' V' q K hT hpl => ?_, fun w F => h8 w F, fun parts cs w hfill => run_build w t parts cs ?_⟩
    · have hpl : (match fs[q]? with | some (o, u) => K o u | none => False) := hpl
      split at hpl
      · rename_i o u hou
        refine ⟨o, u, hpl, fun ti' hti => ?_⟩
        obtain ⟨f', k1, k2, k3, _, iu, k5, _⟩ := hf q o u hou
        obtain ⟨i', z', j1, j2, _⟩ := (hT u ti' hti).i
        rw [k5] at j1
        injection j1 with j1
        subst j1
        have := hpi q f' (by rw [Array.getElem?_toList]; exact k1)
        simp only [List.getElem?_toArray]
        rw [this]
        simp [k3, k5, k2, j2]
      · cases hpl
    · unfold Program.built
      simp only [h4, h1, h7, hp]
      exact hfill
  | array n e =>
    rw [hk] at h3
    obtain ⟨rfl, ie, k1, k2⟩ := h3
    refine ⟨fun i => some (i * ie.size, ie.size), z.cells, fun Γ' V' q K hT hpl => ?_, fun w F => h8 w F, fun parts cs w hfill => run_build w t parts cs ?_⟩
    · have hpl : tyE Γ' e fun te => cM (Nat.blt q n) (K (q * te.size) e) := hpl
      obtain ⟨te, hte, hpl⟩ := tyE_out hpl
      obtain ⟨_, hpl⟩ := cM_out hpl
      obtain ⟨i', z', j1, j2, _⟩ := (hT e te hte).i
      rw [k1] at j1
      injection j1 with j1
      subst j1
      refine ⟨_, _, hpl, fun ti' hti => ?_⟩
      rw [hte] at hti
      injection hti with hti
      subst hti
      rw [j2]
    · unfold Program.built
      simp only [h4, h1, h7, k1]
      exact hfill

/-! ## A row's literal -/
theorem elems_sound (hV : LvOk V) {ty : Ty} : ∀ (parts : List (Nat × Operand)) (n : Nat) (K : List (El E ty) → Prop), elemsOf V s0 ty n parts K →
    ∃ xs, K xs ∧ xs.length = parts.length ∧ ∀ (c : Cx) (g : Gh) (s : St E) (w : World) (vals : List (Nat × Value)), Vals V c g s w s0 parts vals →
      vals = ((vals.map (·.2)).zipIdx n).map (fun x => (x.2, x.1)) ∧ vals.length = parts.length ∧ ∀ (j : Nat) (x : El E ty), xs[j]? = some x → ∃ v : Value, (vals.map (·.2))[j]? = some v ∧ v.cells.size = tsz V ty ∧ ∀ (i : Nat) (l : Lf E), (leaves V ty x)[i]? = some l → ∃ u, v.cells[i]? = some u ∧ RepP V w (FF c g) (flag .made l) u := by
  intro parts
  induction parts with
  | nil =>
    intro n K h
    refine ⟨[], h, rfl, fun c g s w vals hv => ?_⟩
    cases hv
    exact ⟨rfl, rfl, fun j x hj => by simp at hj⟩
  | cons px r ih =>
    intro n K h
    obtain ⟨i, x⟩ := px
    -- one element
    have one : ∀ ls, ((∃ l, ev s0 x = .f (.lf l) ∧ ls = [l]) ∨ ev s0 x = .f (.agg ls)) → allTrue ls = true → leaves V ty (mkEl V ty ls) = ls.map fgt → Nat.beq i n = true →
        (elemsOf V s0 ty (n + 1) r fun xs => K (mkEl V ty ls :: xs)) → ∃ xs, K xs ∧ xs.length = ((i, x) :: r).length ∧ ∀ (c : Cx) (g : Gh) (s : St E) (w : World) (vals : List (Nat × Value)), Vals V c g s w s0 ((i, x) :: r) vals →
          vals = ((vals.map (·.2)).zipIdx n).map (fun x => (x.2, x.1)) ∧ vals.length = ((i, x) :: r).length ∧ ∀ (j : Nat) (x : El E ty), xs[j]? = some x → ∃ v : Value, (vals.map (·.2))[j]? = some v ∧ v.cells.size = tsz V ty ∧ ∀ (i : Nat) (l : Lf E), (leaves V ty x)[i]? = some l → ∃ u, v.cells[i]? = some u ∧ RepP V w (FF c g) (flag .made l) u := by
      intro ls hls hat hob hin hr
      have hin := Nat.eq_of_beq_eq_true hin
      subst hin
      obtain ⟨xs, k1, k2, k3⟩ := ih _ _ hr
      refine ⟨_, k1, by simp [k2], fun c g s w vals hv => ?_⟩
      cases hv with
      | cons hx hvr =>
        rename_i v rv
        obtain ⟨m1, m2, m3⟩ := k3 c g s w rv hvr
        have hrep : RepL V w (FF c g) ls v.cells.toList := by
          rcases hls with ⟨l, he, rfl⟩ | he
          · rw [he] at hx; exact RepL.one hx
          · rw [he] at hx; obtain ⟨cs, rfl, hr⟩ := hx; exact hr
        have hlen : ls.length = tsz V ty := by rw [← leaves_len hV ty (mkEl V ty ls), hob, List.length_map]
        refine ⟨?_, by simp [m2], fun j y hj => ?_⟩
        · simp only [List.map_cons, List.zipIdx_cons]
          rw [← m1]
        · cases j with
          | zero =>
            injection hj with hj
            subst hj
            refine ⟨v, rfl, ?_, fun q l hq => ?_⟩
            · have := hrep.1; simp only [Array.length_toList] at this; omega
            · rw [hob, List.getElem?_map] at hq
              obtain ⟨l0, hq0, rfl⟩ := Option.map_eq_some_iff.1 hq
              obtain ⟨u, h5, h6⟩ := hrep.2 q l0 hq0
              refine ⟨u, by rw [← Array.getElem?_toList]; exact h5, ?_⟩
              rw [flag_fgt, allTrue_mem hat (List.mem_of_getElem? hq0)]
              exact h6.fgt
          | succ j =>
            obtain ⟨v', h5, h6⟩ := m3 j y (by simpa using hj)
            exact ⟨v', by simpa using h5, h6⟩
    simp only [elemsOf] at h
    split at h
    · rename_i hin
      split at h
      · rename_i l he
        split at h
        · rename_i hat
          obtain ⟨hob, h⟩ := Ob_out h
          exact one [l] (.inl ⟨l, he, rfl⟩) hat hob hin h
        · cases h
      · rename_i ls he
        split at h
        · rename_i hat
          obtain ⟨hob, h⟩ := Ob_out h
          exact one ls (.inr he) hat hob hin h
        · cases h
      · cases h
    · cases h
theorem updL_one {α : Type} (f : Nat → Option α) (n : Nat) (x : α) : updL f [(n, x)] = upd f n (some x) := rfl
theorem ver_eq {r : Nat} (h : s.rw r = s0.rw r) : ver s r = ver s0 r := by simp [ver, h]
theorem gen_eq {b : Nat} (h : s.bx b = s0.bx b) : gen s b = gen s0 b := by simp [gen, h]
theorem buildSlice_sound (hV : LvOk V) (hT : TabOk P V Γ) {d : Nat} {t : TypeId} {n : Nat} {parts : List (Nat × Operand)} {K : Ef E → Prop} (h : buildSliceE V Γ s0 d t n parts K) :
    ∃ ef, K ef ∧ ∀ (c : Cx) (g : Gh) (s : St E) (w : World) (vals : List (Nat × Value)), RelG V c g s w → Ag s s0 ef → Vals V c g s w s0 parts vals →
      ∃ v w' g', (Instr.buildSlice t n vals.toArray).run P w = .ok v w' ∧ RelG V c g' (mem s ef) w' ∧ Later c g g' s (mem s ef) w w' ∧ RepA V c g' (mem s ef) w' ef.v v := by
  unfold buildSliceE at h
  obtain ⟨ti, h1, h2⟩ := tyE_out h
  clear h
  have ht := hT t ti h1
  split at h2
  · rename_i e hk
    obtain ⟨te, h3, h4⟩ := tyE_out h2
    clear h2
    have hte := hT e te h3
    split at h4
    · rename_i hlen
      simp only [Bool.and_eq_true] at hlen
      have hlen1 := Nat.eq_of_beq_eq_true hlen.1
      have hlen2 := Nat.le_of_ble_eq_true hlen.2
      obtain ⟨xs, h5, h6, h7⟩ := elems_sound hV parts 0 _ h4
      refine ⟨_, h5, fun c g s w vals hm ha hv => ?_⟩
      obtain ⟨m1, m2, m3⟩ := h7 c g s w vals hv
      obtain ⟨dd, q1, q2, q3, q4⟩ := ht.d
      rw [hk] at q3
      have q3 : dd = .slice e := q3
      subst q3
      obtain ⟨ie, z, p1, p2, p3, p4, p5, p6, p7, _⟩ := hte.i
      have hT' : tsz V te.el = te.size := hte.el
      have hpos := hte.pos.1
      have hsz : ∀ v ∈ vals.map (·.2), v.cells.size = te.size := by
        intro v hv'
        obtain ⟨j, hj⟩ := List.mem_iff_getElem?.1 hv'
        have hjl : j < xs.length := by
          have := (List.getElem?_eq_some_iff.1 hj).1
          rw [List.length_map] at this; omega
        obtain ⟨v', k1, k2, _⟩ := m3 j _ (List.getElem?_eq_getElem hjl)
        rw [hj] at k1
        injection k1 with k1
        rw [k1, k2, hT']
      have hver := ver_eq (ha.2 d (by simp))
      -- the cells
      let cs : Array Value := ((vals.map (·.2)).flatMap fun v => v.cells.toList).toArray
      have hget : ∀ q, cs.toList[q]? = ((vals.map (·.2))[q / te.size]?).bind (fun v => v.cells[q % te.size]?) := fun q => Great.flat_get hpos _ hsz q
      have hcs : cs.size = xs.length * te.size := by
        show ((vals.map (·.2)).flatMap fun v => v.cells.toList).toArray.size = _
        rw [List.size_toArray, List.length_flatMap]
        have : ∀ l : List Value, (∀ v ∈ l, v.cells.size = te.size) → (l.map fun v => v.cells.toList.length).sum = l.length * te.size := by
          intro l
          induction l with
          | nil => intro _; simp
          | cons y l ih =>
            intro hl
            rw [List.map_cons, List.sum_cons, ih (fun v hv => hl v (List.mem_cons_of_mem _ hv)), Array.length_toList, hl y List.mem_cons_self, List.length_cons, Nat.add_mul, Nat.one_mul]
            omega
        rw [this _ hsz, List.length_map, m2, h6]
      have hel : ElRep V w (FF c g) te.el xs cs.toList := by
        intro j x i l hj hi
        obtain ⟨v, k1, k2, k3⟩ := m3 j x hj
        obtain ⟨u, k4, k5⟩ := k3 i l hi
        refine ⟨u, ?_, k5⟩
        have hil := leaves_lt hV hi
        rw [hget, hT']
        have e1 : (j * te.size + i) / te.size = j := by rw [Nat.mul_comm, Nat.mul_add_div hpos, Nat.div_eq_of_lt (by omega)]; omega
        have e2 : (j * te.size + i) % te.size = i := by rw [Nat.mul_comm, Nat.mul_add_mod, Nat.mod_eq_of_lt (by omega)]
        rw [e1, e2, k1]
        exact k4
      have hrun : (Instr.buildSlice t n vals.toArray).run P w = .ok (.slice (some ⟨w.heap.size, 0, none⟩) n n) (w.alloc (.cells cs e)) := by
        rcases Nat.eq_zero_or_pos n with h0 | h0
        · have hv0 : vals = [] := List.eq_nil_of_length_eq_zero (by omega)
          subst hv0
          subst h0
          have hc0 : cs = #[] := rfl
          rw [hc0]
          have hr0 : (Array.range 0).map (fun x : Nat => (default : Value)) = #[] := Array.eq_empty_of_size_eq_zero (by simp)
          simp [Instr.buildSlice, run_underlying q1, sizeOf, typeInfo, p1, Instr.fill, newRow]
          rw [hr0]
        · refine run_buildSlice w t e n _ cs ie z q1 p1 p4 (by rw [p2]; omega) (by rw [p2]; have := Nat.mul_pos h0 hpos; omega) ?_
          rw [show vals.toArray.toList = vals from rfl, m1, p2]
          rw [Great.fill_whole hpos (vals.map (·.2)) _ hsz (by rw [List.length_map, m2, Array.size_map, Array.size_range]; rw [← h6, h6, hlen1])]
      obtain ⟨g1, n1, n2, n3⟩ := hm.newRow d e te.el xs cs (by rw [hT']; exact hpos) (by rw [hT']; exact hcs) (by
        have h8 : xs.length * 1 ≤ n * te.size := by rw [h6, hlen1]; exact Nat.mul_le_mul_left _ hpos
        unfold maxLen; omega) hel
      rw [hver] at n1 n2 n3
      refine ⟨_, _, g1, hrun, n1, n2, ?_⟩
      have hxn : xs.length = n := by omega
      rw [hxn] at n3
      exact n3
    · cases h4
  · cases h2
end
end Go.Tx
set_option linter.unusedVariables false
set_option linter.unusedSimpArgs false
namespace Go.Tx
open Go.RowKit

section
variable {E : Env} {V : Lv E} {Γ : Nat → Option (TI E)} {P : Program} {c : Cx} {g g' : Gh} {s s0 : St E} {w w' : World} {a : Act}

theorem flag_flat (hV : LvOk V) {t : Ty} (hf : flatTy V t = true) {x : El E t} {i : Nat} {l : Lf E} (h : (leaves V t x)[i]? = some l) (a b : Fr) : flag a l = flag b l := by
  have hm := List.mem_of_getElem? h
  cases t with
  | int k => simp only [leaves, List.mem_singleton] at hm; subst hm; rfl
  | bool => simp only [leaves, List.mem_singleton] at hm; subst hm; rfl
  | str => simp only [leaves, List.mem_singleton] at hm; subst hm; rfl
  | list t => cases hf
  | nam n => rw [hV.flat n x hf l hm a, hV.flat n x hf l hm b]
/-- The cells of a row as they read, laid side by side. -/
theorem row_cells (hV : LvOk V) {F : Fr → Nat → Prop} {fr : Fr} {t : Ty} {xs : List (El E t)} {b o : Nat} (h : ∀ (j : Nat) (x : El E t) (i : Nat) (l : Lf E), xs[j]? = some x → (leaves V t x)[i]? = some l → ∃ u, w.cell? ⟨b, o + (j * tsz V t + i), none⟩ = some u ∧ RepP V w F (flag fr l) u) (hs : 0 < tsz V t) :
    ∃ news : List Value, news.length = xs.length * tsz V t ∧ (∀ q u, news[q]? = some u → w.cell? ⟨b, o + q, none⟩ = some u) ∧ ∀ (j : Nat) (x : El E t) (i : Nat) (l : Lf E), xs[j]? = some x → (leaves V t x)[i]? = some l → ∃ u, news[j * tsz V t + i]? = some u ∧ RepP V w F (flag fr l) u := by
  refine ⟨(List.range (xs.length * tsz V t)).map fun q => (w.cell? ⟨b, o + q, none⟩).getD undef, by simp, fun q u hq => ?_, fun j x i l hj hi => ?_⟩
  · have hql : q < xs.length * tsz V t := by
      have := (List.getElem?_eq_some_iff.1 hq).1
      simpa using this
    rw [List.getElem?_map, List.getElem?_range hql] at hq
    simp only [Option.map_some, Option.some.injEq] at hq
    have hj : q / tsz V t < xs.length := (Nat.div_lt_iff_lt_mul hs).2 hql
    have hi : q % tsz V t < (leaves V t xs[q / tsz V t]).length := by rw [leaves_len hV]; exact Nat.mod_lt _ hs
    obtain ⟨u', h1, _⟩ := h _ _ _ _ (List.getElem?_eq_getElem hj) (List.getElem?_eq_getElem hi)
    rw [Nat.mul_comm, Nat.div_add_mod] at h1
    rw [h1] at hq
    simp only [Option.getD_some] at hq
    rw [← hq]; exact h1
  · obtain ⟨u, h1, h2⟩ := h j x i l hj hi
    have hjl := (List.getElem?_eq_some_iff.1 hj).1
    have hil := leaves_lt hV hi
    have hlt : j * tsz V t + i < xs.length * tsz V t := by
      have : (j + 1) * tsz V t ≤ xs.length * tsz V t := Nat.mul_le_mul_right _ hjl
      rw [Nat.add_mul, Nat.one_mul] at this; omega
    exact ⟨u, by rw [List.getElem?_map, List.getElem?_range hlt]; simp [h1], h2⟩
theorem cells_one (hV : LvOk V) {F : Fr → Nat → Prop} {fr : Fr} {t : Ty} {xs : List (El E t)} {news : List Value} (hs : 0 < tsz V t) (hl : news.length = xs.length * tsz V t)
    (h : ∀ (j : Nat) (x : El E t) (i : Nat) (l : Lf E), xs[j]? = some x → (leaves V t x)[i]? = some l → ∃ u, news[j * tsz V t + i]? = some u ∧ RepP V w F (flag fr l) u) : ∀ u ∈ news, u.oneCell' = true := by
  intro u hu
  obtain ⟨q, hq⟩ := List.mem_iff_getElem?.1 hu
  have hql : q < xs.length * tsz V t := by rw [← hl]; exact (List.getElem?_eq_some_iff.1 hq).1
  have hj : q / tsz V t < xs.length := (Nat.div_lt_iff_lt_mul hs).2 hql
  have hi : q % tsz V t < (leaves V t xs[q / tsz V t]).length := by rw [leaves_len hV]; exact Nat.mod_lt _ hs
  obtain ⟨u', h1, h2⟩ := h _ _ _ _ (List.getElem?_eq_getElem hj) (List.getElem?_eq_getElem hi)
  rw [Nat.mul_comm, Nat.div_add_mod, hq] at h1
  injection h1 with h1
  subst h1
  exact h2.one
theorem ElRep.append (hV : LvOk V) {F : Fr → Nat → Prop} {t : Ty} {xs ys : List (El E t)} {cx cy : List Value} (h : ElRep V w F t xs cx) (k : ElRep V w F t ys cy) (hl : cx.length = xs.length * tsz V t) : ElRep V w F t (xs ++ ys) (cx ++ cy) := by
  intro j x i l hj hi
  have hil := leaves_lt hV hi
  rcases Nat.lt_or_ge j xs.length with h1 | h1
  · rw [List.getElem?_append_left h1] at hj
    obtain ⟨u, h2, h3⟩ := h j x i l hj hi
    refine ⟨u, ?_, h3⟩
    have : (j + 1) * tsz V t ≤ xs.length * tsz V t := Nat.mul_le_mul_right _ h1
    rw [Nat.add_mul, Nat.one_mul] at this
    rw [List.getElem?_append_left (by omega)]
    exact h2
  · rw [List.getElem?_append_right h1] at hj
    obtain ⟨u, h2, h3⟩ := k _ x i l hj hi
    refine ⟨u, ?_, h3⟩
    have : xs.length * tsz V t ≤ j * tsz V t := Nat.mul_le_mul_right _ h1
    rw [List.getElem?_append_right (by omega), hl, ← h2, Nat.sub_mul]
    congr 1
    omega
/-- What a row to be appended comes to. -/
def NewsOk (V : Lv E) (w : World) (F : Fr → Nat → Prop) (t : Ty) (ys : List (El E t)) (y : Value) : Prop :=
  (y = .slice none 0 0 ∧ ys = []) ∨ ∃ ad cap news, y = .slice (some ad) ys.length cap ∧ news.length = ys.length * tsz V t ∧ (∀ q u, news[q]? = some u → w.cell? (ad.add q) = some u) ∧ (∀ u ∈ news, u.oneCell' = true) ∧ ElRep V w F t ys news ∧ ys.length ≤ maxLen
theorem news_of_read (hV : LvOk V) {fr : Fr} {t : Ty} {ys : List (El E t)} {y : Value} (h : RowRead V w (FF c g) fr t ys y) (hs : 0 < tsz V t) (hf : (fr.isMade || flatTy V t) = true) : NewsOk V w (FF c g) t ys y ∨ (ys = [] ∧ ∃ cap, y = .slice none 0 cap) := by
  obtain ⟨A, cap, rfl, h1, h2, h3⟩ := h
  have key : ∀ b o, (∀ (j : Nat) (x : El E t) (i : Nat) (l : Lf E), ys[j]? = some x → (leaves V t x)[i]? = some l → ∃ u, w.cell? ⟨b, o + (j * tsz V t + i), none⟩ = some u ∧ RepP V w (FF c g) (flag fr l) u) → A = some ⟨b, o, none⟩ → NewsOk V w (FF c g) t ys (.slice A ys.length cap) := by
    intro b o h4 hA
    obtain ⟨news, k1, k2, k3⟩ := row_cells hV h4 hs
    refine .inr ⟨⟨b, o, none⟩, cap, news, by rw [hA], k1, fun q u hq => by rw [addr_add]; exact k2 q u hq, cells_one hV hs k1 k3, fun j x i l hj hi => ?_, h2⟩
    obtain ⟨u, k4, k5⟩ := k3 j x i l hj hi
    refine ⟨u, k4, ?_⟩
    cases fr with
    | made => exact k5
    | kept => rw [flag_flat hV (by simpa [Fr.isMade] using hf) hi .made .kept]; exact k5
    | lent => rw [flag_flat hV (by simpa [Fr.isMade] using hf) hi .made .lent]; exact k5
  rcases h3 with h3 | ⟨b, o, hA, h4⟩
  · subst h3
    cases A with
    | none => exact .inr ⟨rfl, cap, rfl⟩
    | some ad => exact .inl (.inr ⟨ad, cap, [], rfl, by simp, fun q u hq => by simp at hq, (fun u hu => by cases hu), fun j x i l hj => by simp at hj, Nat.zero_le _⟩)
  · exact .inl (key b o h4 hA)
/-- The append itself. -/
theorem run_append_row (hT : TabOk P V Γ) {t ty e : TypeId} {ti te : TI E} {base : Nat} (h1 : Γ t = some ti) (hk : ti.k = .slice e) (h2 : Γ e = some te) {t' : Ty} (hsz : tsz V t' = te.size) {v y : Value} {n : Nat} {cx : List Value} {ys : List (El E t')} {F : Fr → Nat → Prop}
    (hown : w.ownsRow base e (tsz V t') v n cx) (hy : NewsOk V w F t' ys y ∨ (ys = [] ∧ ∃ cap, y = .slice none 0 cap)) (hb : (n + ys.length) * te.bytes ≤ 140737488355328) (hbase : base ≤ w.heap.size) :
    ∃ v' w' news, (Builtin.append_ #[t, t] ty #[v, y]).run P w = .ok v' w' ∧ w'.ownsRow base e (tsz V t') v' (n + ys.length) (cx ++ news) ∧ w.grownBy w' v.ownBlock ∧ ElRep V w F t' ys news ∧ (v'.ownBlock = v.ownBlock ∨ v'.ownBlock = some w.heap.size) := by
  obtain ⟨d, q1, q2, q3, q4⟩ := (hT t ti h1).d
  rw [hk] at q3
  have q3 : d = .slice e := q3
  subst q3
  have hte := hT e te h2
  obtain ⟨ie, z, p1, p2, p3, p4, p5, p6, p7, hzs⟩ := hte.i
  have hpos := hte.pos
  have hlen : n + ys.length ≤ 140737488355328 := Nat.le_trans (Nat.le_mul_of_pos_right _ hpos.2) hb
  have hnil : ∀ cap, ys = [] → ∃ v' w' news, (Builtin.append_ #[t, t] ty #[v, .slice none 0 cap]).run P w = .ok v' w' ∧ w'.ownsRow base e (tsz V t') v' (n + ys.length) (cx ++ news) ∧ w.grownBy w' v.ownBlock ∧ ElRep V w F t' ys news ∧ (v'.ownBlock = v.ownBlock ∨ v'.ownBlock = some w.heap.size) := by
    intro cap hys
    subst hys
    refine ⟨v, w, [], ?_, by rw [List.append_nil]; exact hown, World.grownBy.refl w _, fun j x i l hj => by simp at hj, .inl rfl⟩
    rcases hown.2 with ⟨rfl, hn⟩ | ⟨g, cap', cur, rfl, _, _, hnc, _⟩
    · simp [Builtin.append_, run_underlying q1, q1, sizeOf, typeInfo, p1, Builtin.lenOf, Builtin.firstCells]
    · simp [Builtin.append_, run_underlying q1, q1, sizeOf, typeInfo, p1, Builtin.lenOf, Builtin.firstCells, hnc, storeCells]
  rcases hy with (⟨rfl, hys⟩ | ⟨ad, cap, news, rfl, k1, k2, k3, k4, k5⟩) | ⟨rfl, cap, rfl⟩
  · exact hnil 0 hys
  · obtain ⟨v', w', r1, r2, r3, _, r5⟩ := run_append_own_at (P := P) w base t ty e ie z (tsz V t') te.bytes q1 p1 p4 (by rw [p2, hsz]) p3 (by rw [hzs, hsz]) (by rw [hsz]; exact hpos.1) v n cx hown ad ys.length cap news k1 k2 k3 (by unfold maxLen; omega) hb hbase
    exact ⟨v', w', news, r1, r2, r3, k4, r5⟩
  · exact hnil cap rfl
theorem below_grown (h : w.grownBy w' none) : Below w.heap.size w w' := ⟨h.os, h.tape, h.output, h.size, fun k hk => h.block k hk (by simp)⟩
theorem ownsRow_take {base : Nat} {e : TypeId} {T n m : Nat} {A : Option Addr} {cap : Nat} {cx : List Value} (h : w.ownsRow base e T (.slice A n cap) n cx) (hm : m ≤ n) : w.ownsRow base e T (.slice A m cap) m (cx.take (m * T)) := by
  have hmul : m * T ≤ n * T := Nat.mul_le_mul_right _ hm
  refine ⟨by rw [List.length_take, h.1]; omega, ?_⟩
  rcases h.2 with ⟨h1, h2⟩ | ⟨g, cap', cur, h1, h2, h3, h4, h5, h6, h7⟩
  · injection h1 with e1 e2 e3
    subst e1 e3
    have : m = 0 := by omega
    subst this
    exact .inl ⟨rfl, rfl⟩
  · injection h1 with e1 e2 e3
    subst e1 e3
    refine .inr ⟨g, cap, cur, rfl, h2, h3, by omega, h5, h6, ?_⟩
    rw [← h7, List.take_take]
    congr 1
    omega
theorem ElRep.take {F : Fr → Nat → Prop} {t : Ty} {xs : List (El E t)} {cx : List Value} (hV : LvOk V) (h : ElRep V w F t xs cx) (m : Nat) : ElRep V w F t (xs.take m) (cx.take (m * tsz V t)) := by
  intro j x i l hj hi
  rw [List.getElem?_take] at hj
  split at hj
  · rename_i hjm
    obtain ⟨u, h1, h2⟩ := h j x i l hj hi
    refine ⟨u, ?_, h2⟩
    have hil := leaves_lt hV hi
    have : (j + 1) * tsz V t ≤ m * tsz V t := Nat.mul_le_mul_right _ hjm
    rw [Nat.add_mul, Nat.one_mul] at this
    rw [List.getElem?_take, if_pos (by omega)]
    exact h1
  · cases hj
theorem append_own (hV : LvOk V) (hT : TabOk P V Γ) {t ty e : TypeId} {ti te : TI E} (h1 : Γ t = some ti) (hk : ti.k = .slice e) (h3 : Γ e = some te) {tt : Ty} (hT' : tsz V tt = te.size) {r v n : Nat} {xs cxs ys : List (El E tt)} {fr : Fr} {rr : List Nat} {vx vy : Value} {cells : List Value}
    (hm : RelG V c g s w) (hrs : s.rw r = some ⟨true, v, e, tt, xs⟩) (hr : RowRead V w (FF c g) fr tt ys vy) (hfl : (fr.isMade || flatTy V tt) = true) (o1 : w.ownsRow c.w0.heap.size e (tsz V tt) vx n cells) (o2 : ElRep V w (FF c g) tt cxs cells) (hln : cxs.length = n)
    (hob : vx.ownBlock = (g.rv r).ownBlock) (hb : (n + ys.length) * te.bytes ≤ 140737488355328) :
    ∃ v2 w' g', (Builtin.append_ #[t, t] ty #[vx, vy]).run P w = .ok v2 w' ∧ RelG V c g' (mem s ⟨[], rr, .f (.own r (v + 1) none), [], [(r, ⟨true, v + 1, e, tt, cxs ++ ys⟩)]⟩) w' ∧
      Later c g g' s (mem s ⟨[], rr, .f (.own r (v + 1) none), [], [(r, ⟨true, v + 1, e, tt, cxs ++ ys⟩)]⟩) w w' ∧ RepA V c g' (mem s ⟨[], rr, .f (.own r (v + 1) none), [], [(r, ⟨true, v + 1, e, tt, cxs ++ ys⟩)]⟩) w' (.f (.own r (v + 1) none)) v2 := by
  have hpos : 0 < tsz V tt := by rw [hT']; exact (hT e te h3).pos.1
  obtain ⟨v', w', news, k1, k2, k3, k4, k5⟩ := run_append_row (ty := ty) hT h1 hk h3 hT' o1 (news_of_read hV hr hpos hfl) hb hm.size
  rw [hob] at k3 k5
  obtain ⟨m2, l2, r2⟩ := hm.turnRow (w' := w') (row' := ⟨true, v + 1, e, tt, cxs ++ ys⟩) hrs rfl rfl v' k3 (cells ++ news) (by rw [List.length_append, hln]; exact k2) (o2.append hV k4 (by rw [o1.1, hln])) hpos
    (k5.imp id fun k5 k hk' => by rw [k5] at hk'; injection hk' with hk'; omega) (.inl (Nat.lt_succ_self _))
  exact ⟨v', w', _, k1, m2, l2, r2⟩
theorem appendE_sound (hV : LvOk V) (hT : TabOk P V Γ) {d : Nat} {t ty : TypeId} {x y : AV E} {K : Ef E → Prop} (h : appendE V Γ s0 d t x y K) :
    ∃ ef, K ef ∧ ∀ (c : Cx) (g : Gh) (s : St E) (w : World) (vx vy : Value), RelG V c g s w → Ag s s0 ef → RepA V c g s w x vx → RepA V c g s w y vy →
      ∃ v w' g', (Builtin.append_ #[t, t] ty #[vx, vy]).run P w = .ok v w' ∧ RelG V c g' (mem s ef) w' ∧ Later c g g' s (mem s ef) w w' ∧ RepA V c g' (mem s ef) w' ef.v v := by
  unfold appendE at h
  obtain ⟨ti, h1, h2⟩ := tyE_out h
  clear h
  split at h2
  · rename_i e hk
    obtain ⟨te, h3, h4⟩ := tyE_out h2
    clear h2
    obtain ⟨tt, ys, fr, rr, h5, hro⟩ := rowOf_eq h4
    clear h4
    have hte := hT e te h3
    -- the row that is appended, at any state that agrees
    have hread : ∀ (c : Cx) (g : Gh) (s : St E) (w : World) (vy : Value), RelG V c g s w → (∀ r ∈ rr, s.rw r = s0.rw r) → RepA V c g s w y vy → RowRead V w (FF c g) fr tt ys vy := by
      intro c g s w vy hm ha hy
      obtain ⟨t', xs', fr', _, he, hr⟩ := rowOf_sound (hro s ha) hm hy
      cases he
      exact hr
    split at h5
    · cases h5
    · rename_i hfl
      split at h5
      · -- onto nothing
        split at h5
        · rename_i hty
          obtain ⟨hb, h6⟩ := Ob_out h5
          refine ⟨_, h6, fun c g s w vx vy hm ha hx hy => ?_⟩
          have : vx = .slice none 0 0 := hx
          subst this
          have hT' : tsz V tt = te.size := by rw [← hte.el, of_decide_eq_true hty]
          have hpos : 0 < tsz V tt := by rw [hT']; exact hte.pos.1
          have hr := hread c g s w vy hm (fun r hr => ha.2 r (List.mem_cons_of_mem _ hr)) hy
          have hver := ver_eq (ha.2 d (by simp))
          obtain ⟨v', w', news, k1, k2, k3, k4, k5⟩ := run_append_row (ty := ty) hT h1 hk h3 hT' (v := .slice none 0 0) (n := 0) (cx := []) (base := c.w0.heap.size) ⟨by simp, .inl ⟨rfl, rfl⟩⟩ (news_of_read hV hr hpos hfl) (by rw [Nat.zero_add]; exact hb) hm.size
          rw [Nat.zero_add, List.nil_append] at k2
          have hbel := below_grown k3
          obtain ⟨m1, l1⟩ := hm.grow hbel
          have hfresh : ∀ k, v'.ownBlock = some k → w.heap.size ≤ k := by
            intro k hk'
            rcases k5 with k5 | k5
            · rw [k5] at hk'; simp [Value.ownBlock] at hk'
            · rw [k5] at hk'; injection hk' with hk'; omega
          obtain ⟨m2, l2, r2⟩ := m1.adoptRow d v' e tt ys news hpos k2 (k4.move (fun _ _ h => h) (fun b k hk => l1.S b k hk)) (fun k hk' hz => by have := hfresh k hk'; have := (hm.zed _ hz).2; omega)
            (fun k b bx hk' hb' e => by have := hfresh k hk'; have := hm.boxLt hb'; omega) (fun k r' row hk' _ hr' hl e => by have := hfresh k hk'; have := (hm.rowLt hr' hl e).2.1; omega)
          rw [hver] at m2 l2 r2
          exact ⟨v', w', _, k1, m2, l1.trans l2, r2⟩
        · cases h5
      · rename_i r v m
        split at h5
        · rename_i v' e' ty' xs hrw
          split at h5
          · rename_i hv he
            have hv := Nat.eq_of_beq_eq_true hv
            have he := Nat.eq_of_beq_eq_true he
            subst hv he
            split at h5
            · rename_i hh _ hty
              subst hh
              have hT' : tsz V tt = te.size := by rw [← hte.el, of_decide_eq_true hty]
              split at h5
              · obtain ⟨hb, h6⟩ := Ob_out h5
                refine ⟨_, h6, fun c g s w vx vy hm ha hx hy => ?_⟩
                have hrs := (ha.2 r (by simp)).trans hrw
                obtain ⟨row, k1, k2, k3⟩ := hx
                rw [hrs] at k1
                injection k1 with k1
                subst k1
                have hvx : vx = g.rv r := k3 rfl rfl
                subst hvx
                obtain ⟨cells, o1, o2, o3⟩ := hm.row r _ hrs rfl
                have hr := hread c g s w vy hm (fun r hr => ha.2 r (List.mem_cons_of_mem _ hr)) hy
                exact append_own hV hT h1 hk h3 hT' hm hrs (hread c g s w vy hm (fun r hr => ha.2 r (List.mem_cons_of_mem _ hr)) hy) hfl o1 o2 rfl rfl hb
              · rename_i n
                obtain ⟨hb, h6⟩ := Ob_out h5
                refine ⟨_, h6, fun c g s w vx vy hm ha hx hy => ?_⟩
                have hrs := (ha.2 r (by simp)).trans hrw
                obtain ⟨row, k1, k2, k3⟩ := hx
                rw [hrs] at k1
                injection k1 with k1
                subst k1
                obtain ⟨hn, A, cap, e1, e2⟩ := k3 rfl rfl
                subst e2
                have hn : n ≤ xs.length := hn
                obtain ⟨cells, o1, o2, o3⟩ := hm.row r _ hrs rfl
                rw [e1] at o1
                have hln : (xs.take n).length = n := by simp; omega
                refine append_own hV hT h1 hk h3 hT' hm hrs (hread c g s w vy hm (fun r hr => ha.2 r (List.mem_cons_of_mem _ hr)) hy) hfl (n := n) (cells := cells.take (n * tsz V tt)) (ownsRow_take o1 hn) (o2.take hV n) hln ?_ hb
                rw [e1]
                cases A <;> rfl
            · cases h5
          · cases h5
        · cases h5
      · cases h5
  · cases h2
end
end Go.Tx
