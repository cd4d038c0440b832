import Derived.Shelf.SlLaysE
import Derived.WalkKit
import Derived.Deep.LoopGhost
import Derived.Deep.RegionLaw
import Derived.Lib.Walk
import Derived.Sort.WalkB12
import Derived.Lib.SlicesDelete
import Derived.Test.YtdfcoebadjhjlaaDelR
set_option linter.unusedVariables false
set_option linter.unusedSimpArgs false
set_option linter.unusedSectionVars false
namespace Go.Proofs.DelR
open Go Go.Proofs Go.Shelf Go.RowKit Go.Lib Go.Sort
variable {P : Program} {ρ : Ren} {α : Type} [Inhabited α]
structure LaysD (P : Program) (ρ : Ren) : Prop where
  mixed : P.follows .mixedOrders = true
  f45 : Bears P (ρ.f 45) (SlBodyN.n45 ρ)
  t0 : P.underlying (ρ.t 0) = some (TypeDesc.tuple #[])
  a0 : ∀ w, (isAgg (ρ.t 0)).run P w = .ok false w
  z0 : ∀ w, (Go.sizeOf (ρ.t 0)).run P w = .ok 1 w
  v0 : ∀ w, (zeroValue (ρ.t 0)).run P w = .ok (Value.tuple #[]) w
  t3 : P.underlying (ρ.t 3) = some (TypeDesc.int IntKind.i64)
  a3 : ∀ w, (isAgg (ρ.t 3)).run P w = .ok false w
  z3 : ∀ w, (Go.sizeOf (ρ.t 3)).run P w = .ok 1 w
  v3 : ∀ w, (zeroValue (ρ.t 3)).run P w = .ok (Value.int IntKind.i64 0) w
  t4 : P.underlying (ρ.t 4) = some (TypeDesc.bool)
  a4 : ∀ w, (isAgg (ρ.t 4)).run P w = .ok false w
  z4 : ∀ w, (Go.sizeOf (ρ.t 4)).run P w = .ok 1 w
  v4 : ∀ w, (zeroValue (ρ.t 4)).run P w = .ok (Value.bool false) w
  t22 : P.underlying (ρ.t 22) = some (TypeDesc.slice (ρ.t 23))
  a22 : ∀ w, (isAgg (ρ.t 22)).run P w = .ok false w
  z22 : ∀ w, (Go.sizeOf (ρ.t 22)).run P w = .ok 1 w
  v22 : ∀ w, (zeroValue (ρ.t 22)).run P w = .ok (Value.slice none 0 0) w
theorem flat_len (enc : α → List Value) (k : Nat) (hk : ∀ x, (enc x).length = k) (xs : List α) : (xs.flatMap enc).length = xs.length * k := by
  induction xs with
  | nil => simp
  | cons x xs ih => rw [List.flatMap_cons, List.length_append, ih, hk, List.length_cons, Nat.add_mul, Nat.one_mul, Nat.add_comm]
theorem flat_get (enc : α → List Value) (k : Nat) (hk : ∀ x, (enc x).length = k) : ∀ (xs : List α) (t : Nat), t < xs.length * k → (xs.flatMap enc)[t]? = some (enc xs[t / k]!)[t % k]!
  | [], t, h => by simp at h
  | x :: xs, t, h => by
    have k0 : 0 < k := by
      rcases Nat.eq_zero_or_pos k with h0 | h0
      · subst h0; simp at h
      · exact h0
    rw [List.flatMap_cons]
    by_cases c : t < k
    · rw [List.getElem?_append_left (by rw [hk]; exact c), Nat.div_eq_of_lt c, Nat.mod_eq_of_lt c]
      rw [show (x :: xs)[0]! = x from rfl, getElem!_pos (enc x) t (by rw [hk]; exact c), List.getElem?_eq_getElem (by rw [hk]; exact c)]
    · rw [List.getElem?_append_right (by rw [hk]; omega), hk]
      have h' : t - k < xs.length * k := by rw [List.length_cons, Nat.add_mul, Nat.one_mul] at h; omega
      rw [flat_get enc k hk xs (t - k) h']
      obtain ⟨u, rfl⟩ : ∃ u, t = u + k := ⟨t - k, by omega⟩
      rw [Nat.add_sub_cancel, Nat.add_div_right _ k0, Nat.add_mod_right]
      rfl
set_option maxHeartbeats 8000000 in
set_option maxRecDepth 1000000 in
/-- slices.Delete at a struct of k cells. -/
theorem slices_Delete (L : LaysD P ρ) (k : Nat) (hk0 : 0 < k) (aE : ∀ w, (isAgg (ρ.t 23)).run P w = .ok true w) (zE : ∀ w, (Go.sizeOf (ρ.t 23)).run P w = .ok k w) (enc : α → List Value) (hk : ∀ x, (enc x).length = k) (h1 : ∀ x, ∀ v ∈ enc x, v.oneCell' = true) (zr : α) (v23 : ∀ w, (zeroValue (ρ.t 23)).run P w = .ok (.agg (enc zr).toArray) w) (i0 : TypeInfo) (hi0 : P.info? (ρ.t 23) = some i0) (hz1 : i0.size = k) (blk off cap i j : Nat) (d : Array α) (w : World) (hH : HoldsK enc k w blk off d) (hblk : blk < w.heap.size) (hcap : d.size ≤ cap) (hm : cap ≤ 9223372036854775807) (hlt : i < j) (hj : j ≤ d.size) :
    Calls P (ρ.f 45) #[.slice (some ⟨blk, off, none⟩) d.size cap, .int .i64 i, .int .i64 j] w fun e w' => e = .returned (.slice (some ⟨blk, off, none⟩) (d.size - (j - i)) cap) ∧ ∃ q, w' = sortWorldK enc k w blk off q (d.toList.take i ++ d.toList.drop j ++ List.replicate (j - i) zr).toArray #[] := by
  have mixed := L.mixed
  have t0 := L.t0; have a0 := L.a0; have z0 := L.z0; have v0 := L.v0
  have t3 := L.t3; have a3 := L.a3; have z3 := L.z3; have v3 := L.v3
  have t4 := L.t4; have a4 := L.a4; have z4 := L.z4; have v4 := L.v4
  have t22 := L.t22; have a22 := L.a22; have z22 := L.z22; have v22 := L.v22
  have hij : i ≤ j := by omega
  have heq : ¬ i = j := by omega
  obtain ⟨news, hnews⟩ : ∃ news, news = (d.toList.drop j).flatMap enc := ⟨_, rfl⟩
  have hlen : news.length = (d.size - j) * k := by rw [hnews, flat_len enc k hk]; simp
  have hget : ∀ t, t < (d.size - j) * k → news[t]? = some (enc d[j + t / k]!)[t % k]! := by
    intro t ht
    have hq : t / k < d.size - j := (Nat.div_lt_iff_lt_mul hk0).2 ht
    rw [hnews, flat_get enc k hk _ t (by simpa using ht), getElem!_pos (d.toList.drop j) (t / k) (by simpa using hq), getElem!_pos d (j + t / k) (by omega)]
    simp
  obtain ⟨A, hA, hsrc⟩ : ∃ A : Addr, (if cap = j then some (⟨blk, off, none⟩ : Addr) else some ⟨blk, off + j * k, none⟩) = some A ∧ Hid (∀ t u, news[t]? = some u → w.drew.cell? (A.add t) = some u) := by
    by_cases h : cap = j
    · refine ⟨⟨blk, off, none⟩, by simp [h], fun t u hu => ?_⟩
      have h0 : news.length = 0 := by rw [hlen, show d.size - j = 0 by omega, Nat.zero_mul]
      rw [List.length_eq_zero_iff.1 h0] at hu
      simp at hu
    · refine ⟨⟨blk, off + j * k, none⟩, by simp [h], fun t u hu => ?_⟩
      have ht : t < (d.size - j) * k := by
        have := (List.getElem?_eq_some_iff.1 hu).1
        rwa [hlen] at this
      have hq : t / k < d.size - j := (Nat.div_lt_iff_lt_mul hk0).2 ht
      rw [hget t ht] at hu
      rw [Addr.add_lit, show off + j * k + t = off + (j + t / k) * k + t % k by
        have := Nat.div_add_mod t k
        rw [Nat.mul_comm] at this
        rw [Nat.add_mul]; omega]
      exact (hH.cell (i := j + t / k) (by omega) (Nat.mod_lt _ hk0)).1.trans hu
  have s1 : Hid (news.length = (d.size - j) * k) := hlen
  have s2 : Hid (∀ u ∈ news, u.oneCell' = true) := by
    intro u hu
    rw [hnews] at hu
    obtain ⟨x, _, hx⟩ := List.mem_flatMap.1 hu
    exact h1 x u hx
  have s3 : Hid (∀ t, t < news.length → (w.drew.cell? ⟨blk, off + i * k + t, none⟩).isSome = true ∧ w.drew.frozen? ⟨blk, off + i * k + t, none⟩ = false) := by
    intro t ht
    rw [hlen] at ht
    have hq : t / k < d.size - j := (Nat.div_lt_iff_lt_mul hk0).2 ht
    rw [show off + i * k + t = off + (i + t / k) * k + t % k by
      have := Nat.div_add_mod t k
      rw [Nat.mul_comm] at this
      rw [Nat.add_mul]; omega]
    have := hH.cell (i := i + t / k) (c := t % k) (by omega) (Nat.mod_lt _ hk0)
    exact ⟨by show (w.cell? _).isSome = true; rw [this.1]; rfl, this.2⟩
  obtain ⟨W1, hW1⟩ : ∃ W1, W1 = w.drew.setCells blk (off + i * k) news := ⟨_, rfl⟩
  have hw0 : w.drew = sortWorldK enc k w blk off 1 d #[] := by
    unfold sortWorldK
    rw [grow_empty]
    exact (putRowK_self enc k (Sort.ahead w 1) blk off d (holdsK_ahead enc k w 1 blk off d hH)).symm
  have hW1' : W1 = sortWorldK enc k w blk off 1 (lay d i (d.toList.drop j)) #[] := by
    rw [hW1, hnews, hw0]
    exact sortWorldK_lay enc k hk w 1 blk off #[] hblk _ d i (by simp; omega)
  have hls : (lay d i (d.toList.drop j)).size = d.size := lay_size _ _ _
  have hH1 : HoldsK enc k W1 blk off (lay d i (d.toList.drop j)) := by rw [hW1']; exact holdsK_sortWorldK_c enc k w blk off d _ 1 #[] hH hblk hls
  have cell (t : Nat) (ht : t < (d.size - (i + (d.size - j))) * k) : W1.cell? ⟨blk, off + (i + (d.size - j)) * k + t, none⟩ = some ((flatK enc k (lay d i (d.toList.drop j)))[(i + (d.size - j)) * k + t]!) ∧ W1.frozen? ⟨blk, off + (i + (d.size - j)) * k + t, none⟩ = false := by
    have := hH1 ((i + (d.size - j)) * k + t) (by
      rw [size_flatK, hls]
      have e : d.size * k = (i + (d.size - j)) * k + (d.size - (i + (d.size - j))) * k := by rw [← Nat.add_mul]; congr 1; omega
      omega)
    rw [← Nat.add_assoc] at this
    exact this
  have hcl : ∀ ty, (Builtin.clear_ #[ρ.t 22] ty #[.slice (some ⟨blk, off + (i + (d.size - j)) * k, none⟩) (d.size - (i + (d.size - j))) (cap - (i + (d.size - j)))]).run P W1 = .ok (.tuple #[]) (W1.setCells blk (off + (i + (d.size - j)) * k) ((List.replicate (d.size - (i + (d.size - j))) zr).flatMap enc)) :=
    fun ty => run_clear_k enc k hk h1 W1 _ _ ty zr t22 v23 blk (off + (i + (d.size - j)) * k) _ _ (by omega) (fun t ht => by rw [(cell t ht).1]; rfl) (fun t ht => (cell t ht).2)
  have X : Aside (W1 = sortWorldK enc k w blk off 1 (lay d i (d.toList.drop j)) #[]) := hW1'
  have hW : Hid (W1 = w.drew.setCells blk (off + i * k) news) := hW1
  have hic : i ≤ cap := by omega
  have hjc : j ≤ cap := by omega
  have HKK : Hid (∀ x, (enc x).length = k) := hk
  clear hW1 hW1' hH1 hH hget hnews hlen hw0 cell hls h1 hk
  obtain ⟨_, _, FG⟩ := L.f45
  go_enter FG, SlBodyN.n45_ntmps ρ
  go_wp2_with fail
  go_region_law_o (refine step_append_room rfl (.tmp 22) (.tmp 25) (ρ.t 22) rfl (ρ.t 23) i0 k t22 hi0 hz1 blk off i cap (by simp [Act.eval, Act.put]) A (d.size - j) (cap - j) news (by simp [Act.eval, Act.put]) s1.out hsrc.out s2.out (by omega) s3.out ?_; rw [← hW.out])
  go_wp2
  go_ret
  refine ⟨by rw [show d.size - (j - i) = i + (d.size - j) by omega]; rfl, 1, ?_⟩
  rw [← delete_arr d i j zr hij hj, X.out]
  rw [show d.size - (i + (d.size - j)) = j - i by omega]
  exact sortWorldK_lay enc k HKK.out w 1 blk off #[] hblk _ _ (i + (d.size - j)) (by rw [lay_size]; simp; omega)
end Go.Proofs.DelR
