import Derived.Shelf.SlicesQ.IndexFunc
import Derived.Shelf.SlicesQ.Reverse
import Derived.Shelf.SlSortCmp.InsertionK
import Derived.Shelf.RegionOpenPlain
import Derived.Lib.SlKept
import Derived.Lib.SliceRun
import Derived.Shelf.SlLaysH
set_option linter.unusedVariables false
set_option linter.unusedSimpArgs false
set_option linter.unusedSectionVars false
namespace Go.Proofs.DelR
open Go Go.Proofs Go.Shelf Go.RowKit Go.Lib Go.Sort
variable {P : Program} {ρ : Ren} {α : Type} [Inhabited α]
/-- What 'idxBy' gives: -1 and no hit, or the first hit's place. -/
theorem idx_spec (eq : α → α → Bool) (x : α) : ∀ (l : List α) (i : Nat), (Lib.idxByFrom eq x l i = -1 ∧ ∀ j, j < l.length → eq x l[j]! = false) ∨ ∃ k, k < l.length ∧ Lib.idxByFrom eq x l i = ((i + k : Nat) : Int) ∧ eq x l[k]! = true ∧ ∀ j, j < k → eq x l[j]! = false
  | [], _ => .inl ⟨rfl, fun j hj => absurd hj (Nat.not_lt_zero _)⟩
  | y :: r, i => by
    cases h : eq x y with
    | true => exact .inr ⟨0, by simp, by simp [Lib.idxByFrom, h], by simpa using h, fun j hj => absurd hj (Nat.not_lt_zero _)⟩
    | false =>
      rcases idx_spec eq x r (i + 1) with ⟨e, ha⟩ | ⟨k, hk, e, ht, ha⟩
      · refine .inl ⟨by simp [Lib.idxByFrom, h, e], fun j hj => ?_⟩
        cases j with
        | zero => simpa using h
        | succ j => simpa using ha j (by simpa using hj)
      · refine .inr ⟨k + 1, by simpa using hk, by simp only [Lib.idxByFrom, h]; rw [show (if false = true then (i : Int) else Lib.idxByFrom eq x r (i + 1)) = Lib.idxByFrom eq x r (i + 1) from rfl, e]; congr 1; omega, by simpa using ht, fun j hj => ?_⟩
        cases j with
        | zero => simpa using h
        | succ j => simpa using ha j (by omega)
/-- A world with another count of draws. -/
def at_ (w : World) (n : Nat) : World := { w with drawn := n }
theorem below_grow {w w' : World} (h : Below w.heap.size w w') : ∃ n os, w' = grow (at_ w n) os := by
  refine ⟨w'.drawn, w'.heap.extract w.heap.size w'.heap.size, ?_⟩
  obtain ⟨hp, tp, dr, o, ou⟩ := w'
  obtain ⟨h1, h2, h3, h4, h5⟩ := h
  simp only at h1 h2 h3 h4 h5
  subst h1; subst h2; subst h3
  unfold grow at_
  congr 1
  simp only
  refine Array.ext_getElem? fun i => ?_
  rcases Nat.lt_or_ge i w.heap.size with hi | hi
  · rw [Array.getElem?_append_left hi, h5 i hi]
  · rw [Array.getElem?_append_right hi, Array.getElem?_extract, show min hp.size hp.size - w.heap.size = hp.size - w.heap.size by rw [Nat.min_self]]
    by_cases h6 : i - w.heap.size < hp.size - w.heap.size
    · rw [if_pos h6]; congr 1; omega
    · rw [if_neg h6, Array.getElem?_eq_none (by omega)]
/-- A predicate that may draw and lay blocks of its own, in whatever world the row has come to; of that world only what lay before is told. -/
def PredLow (P : Program) (g : Nat) (lb : Array Value) (enc : α → List Value) (k : Nat) (p : α → Bool) (blk off size : Nat) (w : World) (dom : α → Prop) : Prop :=
  ∀ (m : Nat) (os : Array Obj) (dk : Array α), dk.size = size → ∀ x : α, dom x →
    Calls P g (#[.agg (enc x).toArray] ++ lb) (sortWorldK enc k (at_ w m) blk off 0 dk os) fun e w' => e = .returned (.bool (p x)) ∧ Below (sortWorldK enc k (at_ w m) blk off 0 dk os).heap.size (sortWorldK enc k (at_ w m) blk off 0 dk os) w'
theorem sortWorldK_at (enc : α → List Value) (k : Nat) (w : World) (blk off m n : Nat) (dk : Array α) (os os' : Array Obj) : grow (at_ (sortWorldK enc k (at_ w m) blk off 0 dk os) n) os' = sortWorldK enc k (at_ w n) blk off 0 dk (os ++ os') := by
  unfold sortWorldK
  rw [← grow_grow]
  rfl
section
variable (enc : α → List Value) (k : Nat) (hk : ∀ x, (enc x).length = k)
include hk
/-- An element's cells laid at i: the flat row of the array with the element. -/
theorem setMany_set (d : Array α) (i : Nat) (u : α) (hi : i < d.size) : setMany (flatK enc k d) (i * k) (enc u) = flatK enc k (d.setIfInBounds i u) := by
  refine ext_get! (by simp) fun t ht => ?_
  have ht' : t < d.size * k := by simpa using ht
  have k0 : 0 < k := by
    rcases Nat.eq_zero_or_pos k with h | h
    · subst h; simp at ht'
    · exact h
  rw [get_setMany _ _ _ t (by simpa using ht'), get_flatK _ _ _ t ht', get_flatK _ _ _ t (by simpa using ht'), hk]
  by_cases b : t / k = i
  · rw [if_pos ((blk_iff k i t k0).2 b)]
    have : t - i * k = t % k := by subst b; rw [Nat.mod_eq_sub_div_mul]
    rw [this, b, getElem!_pos (d.setIfInBounds i u) i (by simpa using hi)]
    simp
  · rw [if_neg (fun h => b ((blk_iff k i t k0).1 h))]
    have hb : t / k < d.size := (Nat.div_lt_iff_lt_mul k0).2 ht'
    rw [getElem!_pos d (t / k) hb, getElem!_pos (d.setIfInBounds i u) (t / k) (by simpa using hb), Array.getElem_setIfInBounds_ne (by simpa using hb) (fun h => b h.symm)]
theorem sortWorldK_set (w : World) (m : Nat) (blk off : Nat) (dk : Array α) (os : Array Obj) (hblk : blk < w.heap.size) (i : Nat) (u : α) (hi : i < dk.size) : (sortWorldK enc k w blk off m dk os).setCells blk (off + i * k) (enc u) = sortWorldK enc k w blk off m (dk.setIfInBounds i u) os := by
  unfold sortWorldK
  rw [setCells_grow os blk _ _ _ (by rw [size_putRowK]; exact hblk)]
  congr 1
  unfold putRowK
  rw [setCells_putRow _ _ _ _ _ _ (by rw [hk, size_flatK]; have := Nat.mul_le_mul_right k (show i + 1 ≤ dk.size from hi); rwa [Nat.add_mul, Nat.one_mul] at this), setMany_set enc k hk dk i u hi]
end
theorem setCells_append (b : Nat) : ∀ (xs ys : List Value) (o : Nat) (w : World), w.setCells b o (xs ++ ys) = (w.setCells b o xs).setCells b (o + xs.length) ys
  | [], _, _, _ => rfl
  | x :: xs, ys, o, w => by
    rw [List.cons_append, World.setCells, World.setCells, setCells_append b xs ys (o + 1), List.length_cons, show o + 1 + xs.length = o + (xs.length + 1) by omega]
section
variable (enc : α → List Value) (k : Nat) (hk : ∀ x, (enc x).length = k)
include hk
/-- Elements laid from i on. -/
theorem sortWorldK_lay (w : World) (m : Nat) (blk off : Nat) (os : Array Obj) (hblk : blk < w.heap.size) : ∀ (xs : List α) (dk : Array α) (i : Nat), i + xs.length ≤ dk.size → (sortWorldK enc k w blk off m dk os).setCells blk (off + i * k) (xs.flatMap enc) = sortWorldK enc k w blk off m (lay dk i xs) os
  | [], _, _, _ => rfl
  | x :: xs, dk, i, h => by
    have h' : i + 1 + xs.length ≤ dk.size := by simp only [List.length_cons] at h; omega
    rw [List.flatMap_cons, setCells_append, sortWorldK_set enc k hk w m blk off dk os hblk i x (by omega), hk, lay, show off + i * k + k = off + (i + 1) * k by rw [Nat.add_mul, Nat.one_mul, Nat.add_assoc]]
    exact sortWorldK_lay w m blk off os hblk xs _ (i + 1) (by simpa using h')
theorem zero_flat (zr : α) (n : Nat) : (Builtin.zeroCells (enc zr).toArray n).toList = (List.replicate n zr).flatMap enc := by
  unfold Builtin.zeroCells
  simp only [Array.toList_map, Array.toList_range, List.size_toArray, hk]
  induction n with
  | zero => simp
  | succ n ih =>
    rw [List.replicate_succ', List.flatMap_append, ← ih, Nat.add_mul, Nat.one_mul, List.range_add, List.map_append]
    congr 1
    simp only [List.flatMap_cons, List.flatMap_nil, List.append_nil, List.map_map]
    refine List.ext_getElem (by simp [hk]) fun j h1 h2 => ?_
    have hj : j < k := by simpa using h1
    simp only [List.getElem_map, List.getElem_range, Function.comp]
    rw [show (n * k + j) % k = j by rw [Nat.mul_comm, Nat.mul_add_mod]; exact Nat.mod_eq_of_lt hj, getElem!_pos (enc zr).toArray j (by simpa [hk] using hj)]
    simp
end
/-- 'clear(s)', s a slice of n > 0 elements of k cells each. -/
theorem run_clear_k (enc : α → List Value) (k : Nat) (hk : ∀ x, (enc x).length = k) (h1 : ∀ x, ∀ v ∈ enc x, v.oneCell' = true) (w : World) (t e ty : TypeId) (zr : α) (ht : P.underlying t = some (.slice e)) (hv : ∀ w, (zeroValue e).run P w = .ok (.agg (enc zr).toArray) w) (b o n c : Nat) (hn : 0 < n)
    (hc : ∀ j, j < n * k → (w.cell? ⟨b, o + j, none⟩).isSome = true) (hf : ∀ j, j < n * k → w.frozen? ⟨b, o + j, none⟩ = false) :
    (Builtin.clear_ #[t] ty #[.slice (some ⟨b, o, none⟩) n c]).run P w = .ok (.tuple #[]) (w.setCells b o ((List.replicate n zr).flatMap enc)) := by
  have hlen : ((List.replicate n zr).flatMap enc).length = n * k := by
    rw [← zero_flat enc k hk]; simp [Builtin.zeroCells, hk]
  have hst := run_storeCells_cells (P := P) b o ((List.replicate n zr).flatMap enc) 0 w (by intro j hj; rw [Nat.add_zero]; exact hc j (by rw [← hlen]; exact hj)) (by intro j hj; rw [Nat.add_zero]; exact hf j (by rw [← hlen]; exact hj)) (by
    intro v hv'
    obtain ⟨x, _, hx⟩ := List.mem_flatMap.1 hv'
    exact h1 x v hx)
  simp only [Nat.add_zero] at hst
  obtain ⟨m, rfl⟩ : ∃ m, n = m + 1 := ⟨n - 1, by omega⟩
  have hz : (Builtin.zeroCells (Value.agg (enc zr).toArray).cells (m + 1)).toList = (List.replicate (m + 1) zr).flatMap enc := zero_flat enc k hk zr (m + 1)
  simp [Builtin.clear_, run_underlying ht, hv, hz, hst]
structure Lays (P : Program) (ρ : Ren) : Prop where
  mixed : P.follows .mixedOrders = true
  f6 : Bears P (ρ.f 6) (SlBodyH.n6 ρ)
  f10 : Bears P (ρ.f 10) (SlBodyH.n10 ρ)
  t0 : P.underlying (ρ.t 0) = some (TypeDesc.tuple #[])
  a0 : ∀ w, (isAgg (ρ.t 0)).run P w = .ok false w
  z0 : ∀ w, (Go.sizeOf (ρ.t 0)).run P w = .ok 1 w
  v0 : ∀ w, (zeroValue (ρ.t 0)).run P w = .ok (Value.tuple #[]) w
  t3 : P.underlying (ρ.t 3) = some (TypeDesc.int IntKind.i64)
  a3 : ∀ w, (isAgg (ρ.t 3)).run P w = .ok false w
  z3 : ∀ w, (Go.sizeOf (ρ.t 3)).run P w = .ok 1 w
  v3 : ∀ w, (zeroValue (ρ.t 3)).run P w = .ok (Value.int IntKind.i64 0) w
  t4 : P.underlying (ρ.t 4) = some (TypeDesc.bool)
  a4 : ∀ w, (isAgg (ρ.t 4)).run P w = .ok false w
  z4 : ∀ w, (Go.sizeOf (ρ.t 4)).run P w = .ok 1 w
  v4 : ∀ w, (zeroValue (ρ.t 4)).run P w = .ok (Value.bool false) w
  t22 : P.underlying (ρ.t 22) = some (TypeDesc.slice (ρ.t 23))
  a22 : ∀ w, (isAgg (ρ.t 22)).run P w = .ok false w
  z22 : ∀ w, (Go.sizeOf (ρ.t 22)).run P w = .ok 1 w
  v22 : ∀ w, (zeroValue (ρ.t 22)).run P w = .ok (Value.slice none 0 0) w
  t25 : P.underlying (ρ.t 25) = some (TypeDesc.func #[ρ.t 23] #[ρ.t 4] false)
  a25 : ∀ w, (isAgg (ρ.t 25)).run P w = .ok false w
  z25 : ∀ w, (Go.sizeOf (ρ.t 25)).run P w = .ok 1 w
  v25 : ∀ w, (zeroValue (ρ.t 25)).run P w = .ok (Value.nilFunc) w
set_option maxHeartbeats 4000000 in
set_option maxRecDepth 1000000 in
/-- slices.IndexFunc at a struct, the world told: the row as it was, draws and blocks behind it. -/
theorem slices_IndexFunc (L : SlLaysH0.n6 P ρ) (k : Nat) (aE : ∀ w, (isAgg (ρ.t 23)).run P w = .ok true w) (zE : ∀ w, (Go.sizeOf (ρ.t 23)).run P w = .ok k w) (enc : α → List Value) (hk : ∀ x, (enc x).length = k)
    (p : α → Bool) (g : Nat) (lb : Array Value) (eg : ∀ args w, (callFunc g args).run P w = .ok (.enter g args) w) (blk off cap : Nat) (d : Array α) (w : World) (dom : α → Prop) (hdom : ∀ j, j < d.size → dom d[j]!) (hpo : PredLow P g lb enc k p blk off d.size w dom) (hH : HoldsK enc k w blk off d) (hblk : blk < w.heap.size) (hsz : d.size ≤ 9223372036854775807) :
    Calls P (ρ.f 6) #[.slice (some ⟨blk, off, none⟩) d.size cap, .func (.func g) #[] lb] w fun e w' => e = .returned (.int .i64 (Lib.idxBy (fun _ y => p y) d.toList default)) ∧ ∃ q os, w' = sortWorldK enc k (at_ w q) blk off 0 d os := by
  have mixed := L.mixed; have t0 := L.t0; have a0 := L.a0; have z0 := L.z0; have v0 := L.v0; have t3 := L.t3; have a3 := L.a3; have z3 := L.z3; have v3 := L.v3; have t4 := L.t4; have a4 := L.a4; have z4 := L.z4; have v4 := L.v4; have t22 := L.t22; have a22 := L.a22; have z22 := L.z22; have v22 := L.v22; have t25 := L.t25; have a25 := L.a25; have z25 := L.z25; have v25 := L.v25
  have tl : ∀ j, j < d.size → d.toList[j]! = d[j]! := fun j hj => by rw [getElem!_pos d j hj, getElem!_pos d.toList j (by simpa using hj)]; simp
  have hw0 : w = sortWorldK enc k (at_ w w.drawn) blk off 0 d #[] := by
    unfold sortWorldK
    rw [grow_empty, show Sort.ahead (at_ w w.drawn) 0 = w from rfl]
    exact (putRowK_self enc k w blk off d hH).symm
  have HC : Aside _ := hpo
  have HD : Aside (∀ j, j < d.size → dom d[j]!) := hdom
  have HH : Aside (HoldsK enc k w blk off d) := hH
  have W0 : Aside (w = sortWorldK enc k (at_ w w.drawn) blk off 0 d #[]) := hw0
  have HKK : Hid (∀ x, (enc x).length = k) := hk
  clear hpo hH hw0 hk hdom
  obtain ⟨_, _, FG⟩ := L.f6
  go_enter FG, SlBodyH.n6_ntmps ρ
  go_wp2
  go_loopg [5, 8] d.size (fun gg _ s8 wr => ∃ (kk q : Nat) (os : Array Obj), kk ≤ d.size ∧ d.size - kk ≤ gg ∧ s8 = .int .i64 kk ∧ wr = sortWorldK enc k (at_ w q) blk off 0 d os ∧ Aside (∀ j, j < kk → p d.toList[j]! = false))
  case atStart => exact ⟨0, w.drawn, #[], Nat.zero_le _, by omega, rfl, W0.out, fun j hj => absurd hj (Nat.not_lt_zero _)⟩
  case round =>
    obtain ⟨kk, q, os, hkk, hg, rfl, hwr, A⟩ := hrel
    have hHk : HoldsK enc k wr blk off d := by rw [hwr]; exact holdsK_sortWorldK_c enc k (at_ w q) blk off d d 0 os HH.out hblk rfl
    have W2 : Aside (wr = sortWorldK enc k (at_ w q) blk off 0 d os) := hwr
    by_cases hlt : kk < d.size
    · have hltz : (kk : Int) < (d.size : Int) := by omega
      have l2 : Sem.run P (loadCellsFrom ⟨blk, off + kk * k, none⟩ 0 k #[]) wr = .ok (enc d[kk]!).toArray wr := run_loadCellsFrom_list P _ _ _ k (HKK.out _) (HoldsK.cells hHk HKK.out hlt)
      have hcall := HC.out q os d rfl d[kk]! (HD.out kk hlt)
      rw [← hwr] at hcall
      clear hHk hwr
      have hl := tl kk hlt
      clear tl
      generalize hy : d[kk]! = y at l2 hcall hl
      have B : Aside (d.toList[kk]! = y) := hl
      clear hy hl
      cases hq : p y with
      | true =>
        rw [hq] at hcall
        go_wp2_with (go_at_fn g; refine hcall.mono ?_; rintro e w' ⟨rfl, hb_⟩; obtain ⟨qq, os', hw'⟩ := below_grow hb_; clear hb_; have W3 : Aside (w' = grow (at_ wr qq) os') := hw'; clear hw')
        go_ret
        refine ⟨?_, qq, os ++ os', by rw [W3.out, W2.out]; exact sortWorldK_at _ _ _ _ _ _ _ _ _ _⟩
        have := Lib.idxBy_hit (fun _ y => p y) d.toList d.size kk default hlt (by simp) (by show p d.toList[kk]! = true; rw [B.out]; exact hq) A.out
        rw [List.take_of_length_le (by simp)] at this
        rw [this]
        rfl
      | false =>
        rw [hq] at hcall
        go_wp2_with (go_at_fn g; refine hcall.mono ?_; rintro e w' ⟨rfl, hb_⟩; obtain ⟨qq, os', hw'⟩ := below_grow hb_; clear hb_; have W3 : Aside (w' = grow (at_ wr qq) os') := hw'; clear hw')
        go_roundg (d.size - (kk + 1))
        case measure => omega
        case rel =>
          refine ⟨kk + 1, qq, os ++ os', by omega, by omega, by go_num, by rw [W3.out, W2.out]; exact sortWorldK_at _ _ _ _ _ _ _ _ _ _, (show Aside _ from fun j hj => ?_)⟩
          by_cases e : j = kk
          · subst e
            rw [B.out]; exact hq
          · exact A.out j (by omega)
    · have hltz : ¬ (kk : Int) < (d.size : Int) := by omega
      have hkd : kk = d.size := by omega
      subst hkd
      clear hHk hwr
      go_wp2
      go_ret
      refine ⟨?_, q, os, W2.out⟩
      have := Lib.idxBy_miss (fun _ y => p y) d.toList d.size default A.out
      rw [List.take_of_length_le (by simp)] at this
      rw [this]
      rfl
set_option maxHeartbeats 8000000 in
set_option maxRecDepth 1000000 in
/-- slices.DeleteFunc at a struct of k cells. -/
theorem slices_DeleteFunc (L : Lays P ρ) (k : Nat) (hk0 : 0 < k) (aE : ∀ w, (isAgg (ρ.t 23)).run P w = .ok true w) (zE : ∀ w, (Go.sizeOf (ρ.t 23)).run P w = .ok k w) (enc : α → List Value) (hk : ∀ x, (enc x).length = k) (h1 : ∀ x, ∀ v ∈ enc x, v.oneCell' = true)
    (p : α → Bool) (g : Nat) (lb : Array Value) (eg : ∀ args w, (callFunc g args).run P w = .ok (.enter g args) w) (zr : α) (v23 : ∀ w, (zeroValue (ρ.t 23)).run P w = .ok (.agg (enc zr).toArray) w)
    (blk off cap : Nat) (d : Array α) (w : World) (dom : α → Prop) (hdom : ∀ j, j < d.size → dom d[j]!) (hpo : PredLow P g lb enc k p blk off d.size w dom) (hH : HoldsK enc k w blk off d) (hblk : blk < w.heap.size) (hsz : d.size ≤ 9223372036854775807) (hcap : d.size ≤ cap)
    (hIF : Calls P (ρ.f 6) #[.slice (some ⟨blk, off, none⟩) d.size cap, .func (.func g) #[] lb] w fun e w' => e = .returned (.int .i64 (Lib.idxBy (fun _ y => p y) d.toList default)) ∧ ∃ q os, w' = sortWorldK enc k (at_ w q) blk off 0 d os) :
    Calls P (ρ.f 10) #[.slice (some ⟨blk, off, none⟩) d.size cap, .func (.func g) #[] lb] w fun e w' => e = .returned (.slice (some ⟨blk, off, none⟩) (d.toList.filter fun x => !p x).length cap) ∧ ∃ q os, w' = sortWorldK enc k (at_ w q) blk off 0 ((d.toList.filter fun x => !p x) ++ List.replicate (d.size - (d.toList.filter fun x => !p x).length) zr).toArray os := by
  have mixed := L.mixed; have t0 := L.t0; have a0 := L.a0; have z0 := L.z0; have v0 := L.v0; have t3 := L.t3; have a3 := L.a3; have z3 := L.z3; have v3 := L.v3; have t4 := L.t4; have a4 := L.a4; have z4 := L.z4; have v4 := L.v4; have t22 := L.t22; have a22 := L.a22; have z22 := L.z22; have v22 := L.v22; have t25 := L.t25; have a25 := L.a25; have z25 := L.z25; have v25 := L.v25
  have e6 : ∀ args w, (callFunc (ρ.f 6) args).run P w = .ok (.enter (ρ.f 6) args) w := L.f6.enters rfl
  have tl : ∀ j, j < d.size → d.toList[j]! = d[j]! := fun j hj => by rw [getElem!_pos d j hj, getElem!_pos d.toList j (by simpa using hj)]; simp
  obtain ⟨kp, HK⟩ : ∃ kp : Nat → Bool, Hid (kp = fun j => !p d[j]!) := ⟨_, rfl⟩
  have hfil : (d.toList.filter fun x => !p x) = keptUpTo kp d d.size := by rw [HK.out]; exact (keptUpTo_filter (fun x => !p x) d).symm
  rw [hfil]
  rcases idx_spec (fun _ y => p y) default d.toList 0 with ⟨e1, hall⟩ | ⟨k0, hk0', e1, ht, hall⟩
  · have e2 : Lib.idxBy (fun _ y => p y) d.toList default = -1 := e1
    rw [e2] at hIF
    have hkeep : ∀ j, j < d.size → kp j = true := fun j hj => by rw [HK.out]; show (!p d[j]!) = true; rw [← tl j hj, hall j (by simpa using hj)]; rfl
    have e3 : keptUpTo kp d d.size = d.toList := by rw [keptUpTo_all kp d _ hkeep, range_map_get]
    clear hH hpo hdom
    obtain ⟨_, _, FG⟩ := L.f10
    go_enter FG, SlBodyH.n10_ntmps ρ
    go_wp2_with (go_at_fn (ρ.f 6); refine hIF.mono ?_; rintro e w' ⟨rfl, q0, os0, rfl⟩)
    go_ret
    rw [e3]
    refine ⟨by simp, q0, os0, ?_⟩
    simp
  · have hk0'' : k0 < d.size := by simpa using hk0'
    have e2 : Lib.idxBy (fun _ y => p y) d.toList default = (k0 : Int) := by unfold Lib.idxBy; rw [e1]; simp
    rw [e2] at hIF
    have hkeep : ∀ j, j < k0 → kp j = true := fun j hj => by rw [HK.out]; show (!p d[j]!) = true; rw [← tl j (by omega), hall j hj]; rfl
    have hdrop : kp k0 = false := by rw [HK.out]; show (!p d[k0]!) = false; rw [← tl k0 hk0'']; rw [show p d.toList[k0]! = true from ht]; rfl
    have hne1 : ((k0 : Int) == -1) = false := beq_eq_false_iff_ne.2 (by omega)
    have HC : Aside _ := hpo
    have HD : Aside (∀ j, j < d.size → dom d[j]!) := hdom
    have HH : Aside (HoldsK enc k w blk off d) := hH
    have HKK : Hid (∀ x, (enc x).length = k) := hk
    have H1 : Aside (∀ x, ∀ v ∈ enc x, v.oneCell' = true) := h1
    clear hpo hH hall ht e1 e2 tl h1 hk hdom
    obtain ⟨_, _, FG⟩ := L.f10
    go_enter FG, SlBodyH.n10_ntmps ρ
    go_wp2_with (go_at_fn (ρ.f 6); refine hIF.mono ?_; rintro e w' ⟨rfl, q0, os0, rfl⟩)
    go_loopg [5, 6, 7] d.size (fun gg s5 s6 _ wr => ∃ (i j q : Nat) (os : Array Obj) (dk : Array α), s5 = .int .i64 i ∧ s6 = .int .i64 j ∧ j ≤ d.size ∧ d.size - j ≤ gg ∧ wr = sortWorldK enc k (at_ w q) blk off 0 dk os ∧ Aside (KeptInv kp d j i dk))
    case atStart => exact ⟨k0, k0 + 1, q0, os0, d, rfl, by go_num, by omega, by omega, rfl, KeptInv.start hkeep hdrop⟩
    case round =>
      obtain ⟨i, j, q, os, dk, rfl, rfl, hjd, hgg, hwr, I2⟩ := hrel
      have hI := I2.out
      have hij := hI.lt
      have hds := hI.size
      have hHk : HoldsK enc k wr blk off dk := by rw [hwr]; exact holdsK_sortWorldK_c enc k (at_ w q) blk off d dk 0 os HH.out hblk hds
      have W2 : Aside (wr = sortWorldK enc k (at_ w q) blk off 0 dk os) := hwr
      by_cases hlt : j < d.size
      · have hltz : (j : Int) < (d.size : Int) := by omega
        have lj : Sem.run P (loadCellsFrom ⟨blk, off + j * k, none⟩ 0 k #[]) wr = .ok (enc dk[j]!).toArray wr := run_loadCellsFrom_list P _ _ _ k (HKK.out _) (HoldsK.cells hHk HKK.out (by omega))
        rw [hI.high j (by omega)] at lj
        have hcall := HC.out q os dk hds d[j]! (HD.out j hlt)
        rw [← hwr] at hcall
        -- the stores behind the call
        have hst : ∀ (w' : World) (qq : Nat) (os' : Array Obj), w' = grow (at_ wr qq) os' → Sem.run P (storeCells ⟨blk, off + i * k, none⟩ (enc d[j]!) 0) w' = .ok () (w'.setCells blk (off + i * k) (enc d[j]!)) := fun w' qq os' hw' => by
          have hH' : HoldsK enc k w' blk off dk := by rw [hw', hwr, sortWorldK_at]; exact holdsK_sortWorldK_c enc k (at_ w _) blk off d dk 0 _ HH.out hblk hds
          exact stores_of_holds P hH' (i * k) _ (by rw [HKK.out, size_flatK]; have := Nat.mul_le_mul_right k (show i + 1 ≤ dk.size by omega); rwa [Nat.add_mul, Nat.one_mul] at this) (H1.out _)
        have HST : Aside _ := hst
        clear hHk hI hwr hst
        generalize hu : d[j]! = u at lj hcall HST
        have C : Aside (d[j]! = u) := hu
        clear hu
        have hsU : (enc u).length = k := HKK.out _
        cases hq : p u with
        | false =>
          rw [hq] at hcall
          go_wp2_with (go_at_fn g; refine hcall.mono ?_; rintro e w' ⟨rfl, hb_⟩; obtain ⟨qq, os', hw'⟩ := below_grow hb_; clear hb_; have s1 := HST.out w' qq os' hw'; have W3 : Aside (w' = grow (at_ wr qq) os') := hw'; clear hw')
          go_roundg (d.size - (j + 1))
          case measure => omega
          case rel =>
            refine ⟨i + 1, j + 1, qq, os ++ os', dk.setIfInBounds i u, by go_num, by go_num, by omega, Nat.le_refl _, ?_, (show Aside _ from ?_)⟩
            · rw [W3.out, W2.out, sortWorldK_at]
              exact sortWorldK_set enc k HKK.out (at_ w qq) 0 blk off dk _ hblk i u (by omega)
            · have := I2.out.keep hlt (by rw [HK.out]; show (!p d[j]!) = true; rw [C.out, hq]; rfl)
              rwa [C.out] at this
        | true =>
          rw [hq] at hcall
          go_wp2_with (go_at_fn g; refine hcall.mono ?_; rintro e w' ⟨rfl, hb_⟩; obtain ⟨qq, os', hw'⟩ := below_grow hb_; clear hb_; have W3 : Aside (w' = grow (at_ wr qq) os') := hw'; clear hw')
          go_roundg (d.size - (j + 1))
          case measure => omega
          case rel => exact ⟨i, j + 1, qq, os ++ os', dk, rfl, by go_num, by omega, Nat.le_refl _, by rw [W3.out, W2.out]; exact sortWorldK_at _ _ _ _ _ _ _ _ _ _, I2.out.skip (by rw [HK.out]; show (!p d[j]!) = false; rw [C.out, hq]; rfl)⟩
      · obtain rfl : j = d.size := by omega
        have hltz : ¬ (d.size : Int) < (d.size : Int) := by omega
        have cell (t : Nat) (ht : t < (d.size - i) * k) : wr.cell? ⟨blk, off + i * k + t, none⟩ = some ((flatK enc k dk)[i * k + t]!) ∧ wr.frozen? ⟨blk, off + i * k + t, none⟩ = false := by
          have := hHk (i * k + t) (by
            rw [size_flatK, hds]
            have e : d.size * k = i * k + (d.size - i) * k := by rw [← Nat.add_mul]; congr 1; omega
            omega)
          rw [← Nat.add_assoc] at this
          exact this
        have hcl : ∀ ty, (Builtin.clear_ #[ρ.t 22] ty #[.slice (some ⟨blk, off + i * k, none⟩) (d.size - i) (cap - i)]).run P wr = .ok (.tuple #[]) (wr.setCells blk (off + i * k) ((List.replicate (d.size - i) zr).flatMap enc)) :=
          fun ty => run_clear_k enc k HKK.out H1.out wr _ _ ty zr t22 v23 blk (off + i * k) _ _ (by omega) (fun t ht => by rw [(cell t ht).1]; rfl) (fun t ht => (cell t ht).2)
        clear hHk hI hwr cell
        go_wp2
        go_ret
        have hI := I2.out
        refine ⟨by rw [hI.len]; rfl, q, os, ?_⟩
        rw [hI.len, ← hI.done zr, W2.out]
        exact sortWorldK_lay enc k HKK.out (at_ w q) 0 blk off os hblk _ dk i (by simp; omega)
end Go.Proofs.DelR
