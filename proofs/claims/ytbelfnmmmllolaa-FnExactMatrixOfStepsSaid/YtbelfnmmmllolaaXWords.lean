/- Words of this session for printed functions: '==' of a small array as one Bool, element by element; what an argument that reads as data holds, by its kind. No condition. -/
import Derived.Test.YtbelfnmmmllolaaProg
import Derived.ChangeKeysEq
import Derived.Laws.StructEq
import Derived.OpenShut
import Derived.Carry
import Derived.Deep.Slices
import Derived.Test.YtbelfnmmmllolaaWWords
import Derived.Test.YtbelfnmmmllolaaWLast
namespace Go.Proofs.Ytbelfnmmmllolaa
open Go Go.RowKit Go.ChangeShapes Go.WideShapes Go.Deep Go.Proofs.YtbelfnmmmllolaaW.PrintWords Go.Proofs.YtbelfnmmmllolaaW.PrintLast
section
variable {P : Program} {d j : Nat} {e : TypeId} {size : Nat} {xs ys : Array Value} {js : List Nat} {a b : Value} {r s : Bool} {w : World}
theorem eqi_nil : (Op.eqItems d e size xs ys []).run P w = .ok true w := by simp [Op.eqItems]
theorem eqi_cons (ha : (part e xs (j * size)).run P w = .ok a w) (hb : (part e ys (j * size)).run P w = .ok b w) (he : (Op.equalIn d e a b).run P w = .ok r w) (hr : (Op.eqItems d e size xs ys js).run P w = .ok s w) : (Op.eqItems d e size xs ys (j :: js)).run P w = .ok (r && s) w := by
  simp only [Op.eqItems, Sem.run_bind, ha, hb, he, Result.andThen_ok]
  cases r
  · simp
  · simpa using hr
theorem eqi_last (ha : (part e xs (j * size)).run P w = .ok a w) (hb : (part e ys (j * size)).run P w = .ok b w) (he : (Op.equalIn d e a b).run P w = .ok r w) : (Op.eqItems d e size xs ys [j]).run P w = .ok r w := by
  have h := eqi_cons ha hb he (eqi_nil (P := P) (d := d) (e := e) (size := size) (xs := xs) (ys := ys) (w := w))
  rwa [Bool.and_true] at h
theorem eqR_of {t : TypeId} {n : Nat} (hu : P.underlying t = some (.array n e)) (hi : (P.info? e).isSome = true) (hs : P.cellsOf e = size) (h : (Op.eqItems d e size xs ys (List.range n)).run P w = .ok r w) : (Op.equalIn (d + 1) t (.agg xs) (.agg ys)).run P w = .ok r w := by
  obtain ⟨i, hi⟩ := Option.isSome_iff_exists.1 hi
  rw [run_equalIn_array w d xs ys hu hi, hs]
  exact h
end
theorem isSome_setCell (w : World) (p q : Addr) (v : Value) : ((w.setCell p v).cell? q).isSome = (w.cell? q).isSome := by
  unfold World.setCell World.cell?
  simp only [Array.getElem?_modify]
  by_cases h : p.block = q.block
  · rw [if_pos h]
    cases hq : w.heap[q.block]? with
    | none => simp
    | some o =>
      cases o with
      | cells c e f =>
        simp only [Option.map_some]
        by_cases h1 : p.spot.isSome = true
        · simp [h1]
        · by_cases h2 : q.spot.isSome = true
          · simp [h2]
          · simp only [h1, h2, Bool.false_eq_true, if_false]
            rw [Array.getElem?_setIfInBounds]
            split
            · rename_i e1
              rw [e1]
              split
              · rename_i hlt; rw [Array.getElem?_eq_getElem hlt]; rfl
              · rename_i hlt; rw [Array.getElem?_eq_none (by omega)]
            · rfl
      | _ => simp
  · rw [if_neg h]
/-! What reads as data at a type, told by a kind: the values are there, and each is of its kind. -/
structure Opens {α : Type} (P : Program) (d : Kd α) (t : TypeId) (Wf : α → Prop) : Prop where
  sz : P.cellsOf t = d.sz
  h : ∀ {H : Type} {enc : TypeId × Value → H} {w : World} {base : Nat} {spare : Nat → Bool} {held : Bool} {fuel : Nat} {cs : List Value} {x : DataW H × List MemPlace}, DataW.trod enc P w base spare held fuel t cs = some x → ∃ y, d.K w y cs ∧ Wf y
variable {P : Program}
theorem opens_int {t : TypeId} {k : IntKind} (hs : P.cellsOf t = 1) (hu : P.underlying t = some (.int k)) : Opens P (Kd.int k) t (fun n => (Lit.int k n).wf = true) :=
  ⟨hs, fun h => by
    obtain ⟨n, rfl, _, hw⟩ := DataW.trod_int hu h
    exact ⟨n, rfl, hw⟩⟩
theorem opens_bool {t : TypeId} (hs : P.cellsOf t = 1) (hu : P.underlying t = some .bool) : Opens P Kd.bool t (fun _ => True) :=
  ⟨hs, fun h => by
    obtain ⟨n, rfl, _⟩ := DataW.trod_bool hu h
    exact ⟨n, rfl, trivial⟩⟩
/-- A row of elements that reads as data. -/
theorem opens_row {α : Type} {d : Kd α} {t e : TypeId} {Wf : α → Prop} (ho : Opens P d e Wf) (hu : P.underlying t = some (.slice e))
    {H : Type} {enc : TypeId × Value → H} {w : World} {base : Nat} {spare : Nat → Bool} {held : Bool} {fuel : Nat} {cs : List Value} {x : DataW H × List MemPlace} (h : DataW.trod enc P w base spare held fuel t cs = some x) :
    ∃ (A : Option Addr) (c : Nat) (l : List α), cs = [.slice A l.length c] ∧ Kd.C d w A l.length l ∧ l.length ≤ c ∧ l.length ≤ maxLen ∧ ∀ y ∈ l, Wf y := by
  rcases open_slice hu h with ⟨rfl, _⟩ | ⟨a, len, cap, m, n, D, Pl, rfl, _, hl, hm, he, _, hf⟩
  · exact ⟨none, 0, [], rfl, ⟨rfl, by simp, fun h => by simp at h⟩, Nat.le_refl _, by simp, by simp⟩
  · have hlm : len ≤ m := by rw [he]; split <;> omega
    have key : ∀ n, n ≤ len → ∃ l : List α, l.length = n ∧ (∀ y ∈ l, Wf y) ∧ ∀ j p, l[j]? = some p → ∃ c, c.length = d.sz ∧ d.K w p c ∧ ∀ i u, c[i]? = some u → w.cell? (a.add (j * d.sz + i)) = some u := by
      intro n
      induction n with
      | zero => intro _; exact ⟨[], rfl, by simp, by simp⟩
      | succ n ih =>
        intro hn
        obtain ⟨l, h1, h2, h3⟩ := ih (by omega)
        obtain ⟨cs', hc, ht⟩ := hf n (by omega)
        obtain ⟨y, hy, hw⟩ := ho.h ht
        refine ⟨l ++ [y], by simp [h1], ?_, ?_⟩
        · intro z hz
          rcases List.mem_append.1 hz with hz | hz
          · exact h2 z hz
          · rw [List.mem_singleton.1 hz]; exact hw
        · intro j p hp
          by_cases hj : j < l.length
          · rw [List.getElem?_append_left hj] at hp
            exact h3 j p hp
          · rw [List.getElem?_append_right (by omega)] at hp
            have e0 : j - l.length = 0 := by
              rcases Nat.eq_zero_or_pos (j - l.length) with h | h
              · exact h
              · rw [List.getElem?_eq_none (by simp; omega)] at hp; simp at hp
            rw [e0] at hp
            have hpy : p = y := by simpa using hp.symm
            subst hpy
            have hjn : j = n := by omega
            subst hjn
            refine ⟨cs', d.K_len hy, hy, fun i u hu => ?_⟩
            rw [ho.sz] at hc
            obtain ⟨_, hlen, hget⟩ := World.cells?_some hc
            have hi : i < d.sz := by
              rw [← d.K_len hy]
              rcases Nat.lt_or_ge i cs'.length with h | h
              · exact h
              · rw [List.getElem?_eq_none h] at hu; simp at hu
            have := hget i hi
            rw [hu] at this
            rw [← this]
            congr 1
            unfold Addr.add
            by_cases e1 : j * d.sz = 0
            · simp [e1]
            · by_cases e2 : i = 0
              · simp [e1, e2]
              · simp [e1, e2, Nat.add_assoc]
    obtain ⟨l, h1, h2, h3⟩ := key len (Nat.le_refl _)
    subst h1
    have hmx : maxLen = 9223372036854775807 := rfl
    exact ⟨some a, cap, l, rfl, ⟨rfl, by omega, fun _ => ⟨a, rfl, h3⟩⟩, hl, by omega, h2⟩
theorem opens_slice {α : Type} {d : Kd α} {t e : TypeId} {Wf : α → Prop} (hs : P.cellsOf t = 1) (ho : Opens P d e Wf) (hu : P.underlying t = some (.slice e)) : Opens P (Kd.slice e d) t (fun l => l.length ≤ maxLen ∧ ∀ y ∈ l, Wf y) :=
  ⟨hs, fun h => by
    obtain ⟨A, c, l, rfl, h1, h2, h3, h4⟩ := opens_row ho hu h
    exact ⟨l, ⟨A, c, rfl, h2, h1⟩, h3, h4⟩⟩
/-- The types of a struct's fields (or an array's elements) in line, and what the cells in line hold. -/
def Line {H : Type} (enc : TypeId × Value → H) (P : Program) (w : World) (base : Nat) (spare : Nat → Bool) (held : Bool) : List TypeId → List Value → Prop
  | [], _ => True
  | t :: ts, cs => (∃ fuel x, DataW.trod enc P w base spare held fuel t (cs.take (P.cellsOf t)) = some x) ∧ Line enc P w base spare held ts (cs.drop (P.cellsOf t))
structure OpensL {α : Type} (P : Program) (d : Kd α) (ts : List TypeId) (Wf : α → Prop) : Prop where
  h : ∀ {H : Type} {enc : TypeId × Value → H} {w : World} {base : Nat} {spare : Nat → Bool} {held : Bool} {cs : List Value}, cs.length = d.sz → Line enc P w base spare held ts cs → ∃ y, d.K w y cs ∧ Wf y
theorem opensL_one {α : Type} {d : Kd α} {t : TypeId} {Wf : α → Prop} (ho : Opens P d t Wf) : OpensL P d [t] Wf :=
  ⟨fun hl h => by
    obtain ⟨⟨fuel, x, h⟩, _⟩ := h
    rw [List.take_of_length_le (by rw [hl, ho.sz]; exact Nat.le_refl _)] at h
    exact ho.h h⟩
theorem opensL_cons {α β : Type} {d : Kd α} {d' : Kd β} {t : TypeId} {ts : List TypeId} {Wf : α → Prop} {Wf' : β → Prop} (ho : Opens P d t Wf) (hs : OpensL P d' ts Wf') : OpensL P (Kd.pair d d') (t :: ts) (fun x => Wf x.1 ∧ Wf' x.2) :=
  ⟨fun {_ _ _ _ _ _ cs} hl h => by
    have hl' : cs.length = d.sz + d'.sz := hl
    obtain ⟨⟨fuel, x, h⟩, hr⟩ := h
    obtain ⟨y, hy, hw⟩ := ho.h h
    obtain ⟨z, hz, hw'⟩ := hs.h (by rw [List.length_drop, hl', ho.sz]; omega) hr
    exact ⟨(y, z), ⟨_, _, (List.take_append_drop _ _).symm, hy, hz⟩, hw, hw'⟩⟩
def placed (P : Program) : List Field → Nat → Bool
  | [], _ => true
  | f :: fs, o => f.offset == o && placed P fs (o + P.cellsOf f.type)
theorem opens_struct {α β : Type} {d : Kd α} {t : TypeId} {fs : Array Field} {Wf : α → Prop} (f : β → α) (g : α → β) (hg : ∀ y, f (g y) = y) (hu : P.underlying t = some (.struct fs)) (hp : placed P fs.toList 0 = true) (hs : P.cellsOf t = d.sz) (hL : OpensL P d (fs.toList.map (·.type)) Wf) :
    Opens P (Kd.iso d f) t (fun x => Wf (f x)) :=
  ⟨hs, fun {_ enc w base spare held fuel cs x} h => by
    obtain ⟨xs, n, _, _, hl, hlen, hf⟩ := DataW.trod_struct hu h
    have key : ∀ (l : List Field) (o i : Nat), placed P l o = true → (∀ j g, l[j]? = some g → fs[i + j]? = some g) → Line enc P w base spare held (l.map (·.type)) (cs.drop o) := by
      intro l
      induction l with
      | nil => intro _ _ _ _; exact trivial
      | cons g l ih =>
        intro o i hp hl'
        simp only [placed, Bool.and_eq_true, beq_iff_eq] at hp
        have hi := hl' 0 g rfl
        have hx := hf i g (by simpa using hi)
        have hlt : i < xs.length := by
          rw [hlen]
          rcases Nat.lt_or_ge i fs.size with h | h
          · exact h
          · rw [Nat.add_zero, Array.getElem?_eq_none h] at hi; simp at hi
        refine ⟨⟨n, xs[i], ?_⟩, ?_⟩
        · rw [← hp.1, hx, List.getElem?_eq_getElem hlt]
        · rw [List.drop_drop]
          exact ih _ (i + 1) hp.2 (fun j g' hj => by have := hl' (j + 1) g' (by simpa using hj); rw [show i + 1 + j = i + (j + 1) from by omega]; exact this)
    have hk := key fs.toList 0 0 hp (fun j g hj => by simpa using hj)
    rw [List.drop_zero] at hk
    obtain ⟨y, hy, hw⟩ := hL.h (hl.trans hs) hk
    exact ⟨g y, by show d.K w (f (g y)) cs; rw [hg]; exact hy, by rw [hg]; exact hw⟩⟩
theorem opens_array {α β : Type} {d : Kd α} {t e : TypeId} {n : Nat} {Wf : α → Prop} (f : β → α) (g : α → β) (hg : ∀ y, f (g y) = y) (hu : P.underlying t = some (.array n e)) (hs : P.cellsOf t = d.sz) (hL : OpensL P d (List.replicate n e) Wf) :
    Opens P (Kd.iso d f) t (fun x => Wf (f x)) :=
  ⟨hs, fun {_ enc w base spare held fuel cs x} h => by
    obtain ⟨xs, m, _, _, hl, hlen, hf⟩ := DataW.trod_array hu h
    have key : ∀ (k i : Nat), i + k = n → Line enc P w base spare held (List.replicate k e) (cs.drop (i * P.cellsOf e)) := by
      intro k
      induction k with
      | zero => intro _ _; exact trivial
      | succ k ih =>
        intro i hi
        have hx := hf i (by omega)
        refine ⟨⟨m, xs[i]'(by omega), ?_⟩, ?_⟩
        · rw [hx, List.getElem?_eq_getElem (by omega)]
        · show Line enc P w base spare held (List.replicate k e) _
          rw [List.drop_drop, show i * P.cellsOf e + P.cellsOf e = (i + 1) * P.cellsOf e from by rw [Nat.add_mul, Nat.one_mul]]
          exact ih (i + 1) (by omega)
    have hk := key n 0 (by omega)
    rw [Nat.zero_mul, List.drop_zero] at hk
    obtain ⟨y, hy, hw⟩ := hL.h (hl.trans hs) hk
    exact ⟨g y, by show d.K w (f (g y)) cs; rw [hg]; exact hy, by rw [hg]; exact hw⟩⟩
/-- An aggregate that reads as data, opened by its kind. -/
theorem open_by {α : Type} {d : Kd α} {t : TypeId} {Wf : α → Prop} (ho : Opens P d t Wf) {H : Type} {enc : TypeId × Value → H} {w : World} {base : Nat} {spare : Nat → Bool} {held : Bool} {v : Value} {x : DataW H} {ps : List MemPlace} (h : DataW.Trod enc P w base spare held t v x ps) :
    ∃ y, d.K w y v.cells.toList ∧ Wf y := by
  obtain ⟨fuel, hf⟩ := h
  exact ho.h hf
theorem okWide_agg {r : Reach} {base : Nat} {w : World} {t : TypeId} {v : Value} {td : TypeDesc} (hu : P.underlying t = some td) (hd : (match td with | .struct _ | .array _ _ => true | _ => false) = true) (h : Value.okWide P w r base t v) : ∃ cs, v = .agg cs := by
  simp only [Value.okWide, hu] at h
  cases td <;> simp at hd <;> (obtain ⟨cs, h1, _⟩ := h; exact ⟨cs, h1⟩)
theorem agg_of {cs : Array Value} {l : List Value} (h : (Value.agg cs).cells.toList = l) : Value.agg cs = .agg l.toArray := by
  have : cs.toList = l := h
  rw [← this]
end Go.Proofs.Ytbelfnmmmllolaa
