import Derived.Test.YtdfcoebadjhjlaaQHx7
import Derived.Ground.SlgnProg
import Derived.Shelf.SlGeneric
import Derived.Test.YtdfcoebadjhjlaaDelD
namespace Go.Proofs.Ytdfcoebadjhjlaa.QH
open Go.RowKit Go.Proofs.YtdfcoebadjhjlaaW.PrintWords Go.Proofs.YtdfcoebadjhjlaaW.PrintLast Go.Proofs.YtdfcoebadjhjlaaW.PrintMore
attribute [local go_sem] isSome_setCell max2_int min2_int max_two min_two max_three min_three max_four min_four
set_option linter.unusedVariables false
set_option linter.unusedSimpArgs false

/-! ### slices_Delete_impl_Piece: function 58 -/
instance slices_Delete_impl_Piece.inh : Inhabited (S72) := ⟨z72⟩
def slices_Delete_impl_Piece.enc (x : S72) : List Value := [.int .i64 x.f0.f0, .int .i64 x.f0.f1, .int .i64 x.f0.f2, .int .i64 x.f1]
/-- A row of one's own: where it lies, and that it holds the list. -/
theorem slices_Delete_impl_Piece.row (g cap : Nat) (l : List (S72)) (w : World) (base : Nat) (ok : Nat → Prop) (hR : Kd.R k72 72 w base ok (.slice (some ⟨g, 0, none⟩) l.length cap) l) (hl : 0 < l.length) : Go.Sort.HoldsK slices_Delete_impl_Piece.enc 4 w g 0 l.toArray ∧ g < w.heap.size ∧ l.length ≤ cap ∧ cap ≤ 9223372036854775807 ∧ base ≤ g ∧ ∃ cur, w.heap[g]? = some (.cells cur 72 (0, 0)) := by
 obtain ⟨hok, inner, ⟨hil, hh⟩, hrep⟩ := hR
 have hsz4 : k72.sz = 4 := rfl
 rcases hh with ⟨e0, _⟩ | ⟨g', cap', cur, e0, hb, hg, hn, hm, hs, ht⟩
 ·cases e0
 injection e0 with e1 _ e3
 injection e1 with e1
 injection e1 with e1
 subst e1; subst e3
 rw [hsz4] at hil hs ht
 have hgl : g < w.heap.size := (Array.getElem?_eq_some_iff.1 hg).1
 have hcell : ∀ j, (hj : j < l.length) → ((inner.drop (j * 4)).take 4) = slices_Delete_impl_Piece.enc l[j] := fun j hj => by
  have h1 := k72.K_of_M (hrep.2 j l[j] (List.getElem?_eq_getElem hj))
  rw [hsz4] at h1
  exact k72_open h1
 refine ⟨?_, hgl, by simpa using hn, by first | exact hm | (unfold maxLen at hm; omega) | omega, hb, cur, hg⟩
 intro j hj
 rw [Go.Sort.size_flatK] at hj
 have hj' : j < l.length * 4 := by simpa using hj
 have hj4 : j / 4 < l.length := by omega
 have hjc : j < cur.size := by rw [hs]; omega
 refine ⟨?_, by simp [World.frozen?, hg]⟩
 rw [Nat.zero_add]
 unfold World.cell?
 simp only [hg, Option.isSome_none, Bool.false_eq_true, if_false]
 have h1 : inner[j]? = cur[j]? := by
  rw [← ht, List.getElem?_take, if_pos (by omega), Array.getElem?_toList]
 have h2 := congrArg (fun z => z[j % 4]?) (hcell (j / 4) hj4)
 simp only [List.getElem?_take, List.getElem?_drop, if_pos (Nat.mod_lt j (show 0 < 4 by omega))] at h2
 rw [show j / 4 * 4 + j % 4 = j by omega] at h2
 have hdg : l.toArray[j / 4]! = l[j / 4] := by rw [getElem!_pos l.toArray (j / 4) (by simpa using hj4)]; simp
 rw [← h1, h2, id, Go.Sort.get_flatK _ _ _ _ hj, hdg, List.getElem?_eq_getElem (show j % 4 < (slices_Delete_impl_Piece.enc l[j / 4]).length from Nat.mod_lt j (by decide)), getElem!_pos _ (j % 4) (show j % 4 < (slices_Delete_impl_Piece.enc l[j / 4]).length from Nat.mod_lt j (by decide))]
theorem slices_Delete_impl_Piece.flat (d : List (S72)) (j : Nat) (hj : j < d.length) : (((Go.Sort.flatK slices_Delete_impl_Piece.enc 4 d.toArray).toList.drop (j * 4)).take 4) = slices_Delete_impl_Piece.enc d[j] := by
 have hs := Go.Sort.size_flatK slices_Delete_impl_Piece.enc 4 d.toArray
 have hs' : (Go.Sort.flatK slices_Delete_impl_Piece.enc 4 d.toArray).size = d.length * 4 := by rw [hs]; simp
 have hlen : (slices_Delete_impl_Piece.enc d[j]).length = 4 := rfl
 have hdg : d.toArray[j]! = d[j] := by rw [getElem!_pos d.toArray j (by simpa using hj)]; simp
 apply List.ext_getElem?
 intro i
 rw [List.getElem?_take]
 by_cases hi : i < 4
 ·rw [if_pos hi, List.getElem?_drop, Array.getElem?_toList, Array.getElem?_eq_getElem (by omega), ← getElem!_pos (Go.Sort.flatK slices_Delete_impl_Piece.enc 4 d.toArray) (j * 4 + i) (by omega), Go.Sort.get_flatK _ _ _ _ (by simp; omega), show (j * 4 + i) / 4 = j by omega, show (j * 4 + i) % 4 = i by omega, hdg, List.getElem?_eq_getElem (by rw [hlen]; exact hi), getElem!_pos _ i (by show i < (slices_Delete_impl_Piece.enc d[j]).length; rw [hlen]; exact hi)]
 rw [if_neg hi, List.getElem?_eq_none (by rw [hlen]; omega)]
/-- What has been written over the row: its first part is a row of one's own again. -/
theorem slices_Delete_impl_Piece.back (g cap : Nat) (l : List (S72)) (w : World) (base : Nat) (ok : Nat → Prop) (hR : Kd.R k72 72 w base ok (.slice (some ⟨g, 0, none⟩) l.length cap) l) (hl : 0 < l.length) (m : Nat) (os : Array Obj) (r rest : List (S72)) (hlen : r.length + rest.length = l.length) :
  Kd.R k72 72 (sortWorldK slices_Delete_impl_Piece.enc 4 w g 0 m (r ++ rest).toArray os) base ok (.slice (some ⟨g, 0, none⟩) r.length cap) r ∧ w.grownBy (sortWorldK slices_Delete_impl_Piece.enc 4 w g 0 m (r ++ rest).toArray os) (some g) := by
 obtain ⟨hok, inner, ⟨hil, hh⟩, hrep⟩ := hR
 have hsz4 : k72.sz = 4 := rfl
 rcases hh with ⟨e0, _⟩ | ⟨g', cap', cur, e0, hb, hg, hn, hm, hs, ht⟩
 ·cases e0
 injection e0 with e1 _ e3
 injection e1 with e1
 injection e1 with e1
 subst e1; subst e3
 rw [hsz4] at hil hs ht
 have hgl : g < w.heap.size := (Array.getElem?_eq_some_iff.1 hg).1
 have hga : w.grownBy (sortWorldK slices_Delete_impl_Piece.enc 4 w g 0 m (r ++ rest).toArray os) (some g) := by
  refine ⟨rfl, rfl, rfl, by unfold sortWorldK Go.Sort.putRowK; rw [Go.Sort.size_grow, Go.Sort.size_putRow]; exact Nat.le_add_right _ _, fun i hi hni => ?_⟩
  unfold sortWorldK Go.Sort.putRowK
  rw [Go.Sort.heap_grow_old _ _ (by rw [Go.Sort.size_putRow]; exact hi)]
  have : g ≠ i := fun e => hni (by rw [e])
  simp [Go.Sort.putRow, Go.Sort.mapBlock, Go.Sort.ahead, Array.getElem?_modify, this]
 have hfs : (Go.Sort.flatK slices_Delete_impl_Piece.enc 4 (r ++ rest).toArray).size = l.length * 4 := by rw [Go.Sort.size_flatK]; simp [hlen]
 have hfr : (Go.Sort.flatK slices_Delete_impl_Piece.enc 4 r.toArray).size = r.length * 4 := by rw [Go.Sort.size_flatK]; simp
 refine ⟨⟨hok, (Go.Sort.flatK slices_Delete_impl_Piece.enc 4 r.toArray).toList, ?_, ?_⟩, hga⟩
 ·rw [hsz4]
  refine ⟨by rw [Array.length_toList, hfr], .inr ⟨g, cap, Go.Sort.putCells id 0 (Go.Sort.flatK slices_Delete_impl_Piece.enc 4 (r ++ rest).toArray) cur, rfl, hb, ?_, by omega, hm, by simpa [Go.Sort.putCells] using hs, ?_⟩⟩
  ·unfold sortWorldK Go.Sort.putRowK
   rw [Go.Sort.heap_grow_old _ _ (by rw [Go.Sort.size_putRow]; exact hgl)]
   simp [Go.Sort.putRow, Go.Sort.mapBlock, Go.Sort.ahead, Array.getElem?_modify, hg, Go.Sort.onCells]
  apply List.ext_getElem?
  intro j
  rw [List.getElem?_take, Array.getElem?_toList, Array.getElem?_toList]
  by_cases hj : j < r.length * 4
  ·have hjc : j < cur.size := by rw [hs]; have := Nat.mul_le_mul_right 4 hn; omega
   rw [if_pos hj]
   simp only [Go.Sort.putCells, Array.getElem?_mapIdx, Array.getElem?_eq_getElem hjc, Option.map_some]
   rw [if_pos ⟨Nat.zero_le _, by rw [hfs]; omega⟩, Array.getElem?_eq_getElem (by rw [hfr]; exact hj), Nat.sub_zero, ← getElem!_pos (Go.Sort.flatK slices_Delete_impl_Piece.enc 4 r.toArray) j (by rw [hfr]; exact hj), Go.Sort.get_flatK _ _ _ _ (by simp; omega), Go.Sort.get_flatK _ _ _ _ (by simp; omega)]
   congr 3
   have hj4 : j / 4 < r.length := by omega
   rw [getElem!_pos (r ++ rest).toArray (j / 4) (by simp; omega), getElem!_pos r.toArray (j / 4) (by simpa using hj4)]
   simp [List.getElem_append_left hj4]
  rw [if_neg hj, Array.getElem?_eq_none (by rw [hfr]; omega)]
 refine ⟨by rw [Array.length_toList, hfr, hsz4], fun j p hj => ?_⟩
 rw [hsz4]
 have hjl : j < r.length := (List.getElem?_eq_some_iff.1 hj).1
 rw [slices_Delete_impl_Piece.flat r j hjl, show r[j] = p from (List.getElem?_eq_some_iff.1 hj).2]
 exact k72_mkM _ _ _ p

def cut58_ren : Go.Shelf.Ren := ⟨fun | 45 => 58 | n => n, fun | 22 => 32 | 23 => 72 | 3 => 3 | 4 => 4 | 0 => 0 | n => n, fun | n => n⟩
theorem cut58 : Go.Proofs.DelR.LaysD Try.prog cut58_ren := {
  mixed := by kernel_rfl
  f45 := ⟨Try.f58.name, by decide, Try.func58.trans (congrArg some (by kernel_rfl))⟩
  t0 := Try.underlying0
  a0 := Try.isAgg0
  z0 := Try.sizeOf0
  v0 := Try.zeroValue0
  t3 := Try.underlying3
  a3 := Try.isAgg3
  z3 := Try.sizeOf3
  v3 := Try.zeroValue3
  t4 := Try.underlying4
  a4 := Try.isAgg4
  z4 := Try.sizeOf4
  v4 := Try.zeroValue4
  t22 := Try.underlying32
  a22 := Try.isAgg32
  z22 := Try.sizeOf32
  v22 := Try.zeroValue32 }
def slices_Delete_impl_Piece.f (l0 : List (S72)) (a1 a2 : Int) : Option (List (S72)) := if 0 ≤ a1 ∧ a1 < a2 ∧ a2 ≤ (l0.length : Int) then some (l0.take a1.toNat ++ l0.drop a2.toNat) else none
set_option maxHeartbeats 4000000 in
set_option maxRecDepth 100000 in
theorem slices_Delete_impl_Piece.calls (P0_ : Nat → Prop) (u0_ : Value) (l0 : List (S72)) (a1 a2 : Int) (r : List (S72)) (w0 w : World) (hB : Below w0.heap.size w0 w) (ho0 : Kd.R k72 72 w w0.heap.size P0_ u0_ l0) (h : slices_Delete_impl_Piece.f l0 a1 a2 = some r) :
  Calls Try.prog 58 #[u0_, .int .i64 a1, .int .i64 a2] w fun e w' => ∃ v1_ : Value, e = .returned v1_ ∧ Kd.R k72 72 w' w0.heap.size (fun k_ => (P0_ k_ ∨ w.heap.size ≤ k_)) v1_ r ∧ Below w0.heap.size w0 w' ∧ Kept w w' (fun k_ => P0_ k_) := by
 unfold slices_Delete_impl_Piece.f at h
 have hl : 0 ≤ a1 ∧ a1 < a2 ∧ a2 ≤ (l0.length : Int) := Classical.byContradiction fun hn => by rw [if_neg hn] at h; cases h
 rw [if_pos hl] at h
 have hr := Option.some.inj h
 clear h
 obtain ⟨ha0, ha1, ha2⟩ := hl
 obtain ⟨i, rfl⟩ : ∃ i : Nat, a1 = i := ⟨a1.toNat, by omega⟩
 obtain ⟨j, rfl⟩ : ∃ j : Nat, a2 = j := ⟨a2.toNat, by omega⟩
 simp only [Int.toNat_natCast] at hr
 have hl0 : 0 < l0.length := by omega
 obtain ⟨g, cap, rfl, hbase, hgl, _, _⟩ := Kd.R_form ho0 hl0
 have hP : P0_ g := ho0.1 g rfl
 obtain ⟨hH, _, hn, hm, _, cur, hcur⟩ := slices_Delete_impl_Piece.row g cap l0 w w0.heap.size P0_ ho0 hl0
 have hone : ∀ x : S72, ∀ v ∈ slices_Delete_impl_Piece.enc x, v.oneCell' = true := fun x v hv => by simp only [slices_Delete_impl_Piece.enc, List.mem_cons, List.not_mem_nil, or_false] at hv; rcases hv with rfl | rfl | rfl | rfl <;> rfl
 obtain ⟨i0, hi, hzz⟩ := Option.map_eq_some_iff.1 info72
 simp only [Prod.mk.injEq] at hzz
 obtain ⟨hz0, hz1, hz2⟩ := hzz
 have hcon := Go.Proofs.DelR.slices_Delete (P := Try.prog) cut58 4 (by decide) Try.isAgg72 Try.sizeOf72 slices_Delete_impl_Piece.enc (fun _ => rfl) hone z72 Try.zeroValue72 i0 hi hz1 g 0 cap i j l0.toArray w hH hgl (by simpa using hn) hm (by omega) (by simp; omega)
 change Calls Try.prog 58 _ _ _ at hcon
 have ha : l0.toArray.toList = l0 := by simp
 have hs : l0.toArray.size = l0.length := by simp
 rw [ha, hs, hr] at hcon
 have hrl : r.length = l0.length - (j - i) := by rw [← hr]; simp; omega
 refine hcon.mono ?_
 rintro e w' ⟨rfl, n, rfl⟩
 obtain ⟨b1, b2⟩ := slices_Delete_impl_Piece.back g cap l0 w w0.heap.size P0_ ho0 hl0 n #[] r (List.replicate (j - i) z72) (by simp; omega)
 rw [← hrl]
 refine ⟨_, rfl, Kd.R_mono b1 (fun _ hk => .inl hk), ?_, ?_⟩
 ·exact hB.grown b2 hB.size (fun k_ hk => by rw [← Option.some.inj hk]; exact hbase)
 exact Kept.of_grown b2 (Kept.of_below (Below.refl _ _) _) (fun k_ hk => by rw [← Option.some.inj hk]; exact .inl hP)
end Go.Proofs.Ytdfcoebadjhjlaa.QH
