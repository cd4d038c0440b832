import Derived.Test.YtdfcoebadjhjlaaQGx6
import Derived.Test.YtdfcoebadjhjlaaQGx39
import Derived.Test.YtdfcoebadjhjlaaQGx45
import Derived.Test.YtdfcoebadjhjlaaQGx50
import Derived.Test.YtdfcoebadjhjlaaQGx70
import Derived.Ground.SlgfProg
import Derived.Shelf.SlGeneric
import Derived.Test.YtdfcoebadjhjlaaDelR
namespace Go.Proofs.Ytdfcoebadjhjlaa.QG
set_option maxHeartbeats 8000000
set_option maxRecDepth 1000000
open Go.RowKit Go.Proofs.YtdfcoebadjhjlaaW.PrintWords Go.Proofs.YtdfcoebadjhjlaaW.PrintLast Go.Proofs.YtdfcoebadjhjlaaW.PrintMore
attribute [local go_sem] isSome_setCell max2_int min2_int max_two min_two max_three min_three max_four min_four
set_option linter.unusedVariables false
set_option linter.unusedSimpArgs false

/-! ### impl_CoarsenAt_del: function 50 -/
instance impl_CoarsenAt_del.inh : Inhabited (S72) := ⟨z72⟩
def impl_CoarsenAt_del.enc (x : S72) : List Value := [.int .i64 x.f0.f0, .int .i64 x.f0.f1, .int .i64 x.f0.f2, .int .i64 x.f1]
/-- A row of one's own: where it lies, and that it holds the list. -/
theorem impl_CoarsenAt_del.row (g cap : Nat) (l : List (S72)) (w : World) (base : Nat) (ok : Nat → Prop) (hR : Kd.R k72 72 w base ok (.slice (some ⟨g, 0, none⟩) l.length cap) l) (hl : 0 < l.length) : Go.Sort.HoldsK impl_CoarsenAt_del.enc 4 w g 0 l.toArray ∧ g < w.heap.size ∧ l.length ≤ cap ∧ cap ≤ 9223372036854775807 ∧ base ≤ g ∧ ∃ cur, w.heap[g]? = some (.cells cur 72 (0, 0)) := by
 obtain ⟨hok, inner, ⟨hil, hh⟩, hrep⟩ := hR
 have hsz4 : k72.sz = 4 := rfl
 rcases hh with ⟨e0, _⟩ | ⟨g', cap', cur, e0, hb, hg, hn, hm, hs, ht⟩
 ·cases e0
 injection e0 with e1 _ e3
 injection e1 with e1
 injection e1 with e1
 subst e1; subst e3
 rw [hsz4] at hil hs ht
 have hgl : g < w.heap.size := (Array.getElem?_eq_some_iff.1 hg).1
 have hcell : ∀ j, (hj : j < l.length) → ((inner.drop (j * 4)).take 4) = impl_CoarsenAt_del.enc l[j] := fun j hj => by
  have h1 := k72.K_of_M (hrep.2 j l[j] (List.getElem?_eq_getElem hj))
  rw [hsz4] at h1
  exact k72_open h1
 refine ⟨?_, hgl, by simpa using hn, by first | exact hm | (unfold maxLen at hm; omega) | omega, hb, cur, hg⟩
 intro j hj
 rw [Go.Sort.size_flatK] at hj
 have hj' : j < l.length * 4 := by simpa using hj
 have hj4 : j / 4 < l.length := by omega
 have hjc : j < cur.size := by rw [hs]; omega
 refine ⟨?_, by simp [World.frozen?, hg]⟩
 rw [Nat.zero_add]
 unfold World.cell?
 simp only [hg, Option.isSome_none, Bool.false_eq_true, if_false]
 have h1 : inner[j]? = cur[j]? := by
  rw [← ht, List.getElem?_take, if_pos (by omega), Array.getElem?_toList]
 have h2 := congrArg (fun z => z[j % 4]?) (hcell (j / 4) hj4)
 simp only [List.getElem?_take, List.getElem?_drop, if_pos (Nat.mod_lt j (show 0 < 4 by omega))] at h2
 rw [show j / 4 * 4 + j % 4 = j by omega] at h2
 have hdg : l.toArray[j / 4]! = l[j / 4] := by rw [getElem!_pos l.toArray (j / 4) (by simpa using hj4)]; simp
 rw [← h1, h2, id, Go.Sort.get_flatK _ _ _ _ hj, hdg, List.getElem?_eq_getElem (show j % 4 < (impl_CoarsenAt_del.enc l[j / 4]).length from Nat.mod_lt j (by decide)), getElem!_pos _ (j % 4) (show j % 4 < (impl_CoarsenAt_del.enc l[j / 4]).length from Nat.mod_lt j (by decide))]
theorem impl_CoarsenAt_del.flat (d : List (S72)) (j : Nat) (hj : j < d.length) : (((Go.Sort.flatK impl_CoarsenAt_del.enc 4 d.toArray).toList.drop (j * 4)).take 4) = impl_CoarsenAt_del.enc d[j] := by
 have hs := Go.Sort.size_flatK impl_CoarsenAt_del.enc 4 d.toArray
 have hs' : (Go.Sort.flatK impl_CoarsenAt_del.enc 4 d.toArray).size = d.length * 4 := by rw [hs]; simp
 have hlen : (impl_CoarsenAt_del.enc d[j]).length = 4 := rfl
 have hdg : d.toArray[j]! = d[j] := by rw [getElem!_pos d.toArray j (by simpa using hj)]; simp
 apply List.ext_getElem?
 intro i
 rw [List.getElem?_take]
 by_cases hi : i < 4
 ·rw [if_pos hi, List.getElem?_drop, Array.getElem?_toList, Array.getElem?_eq_getElem (by omega), ← getElem!_pos (Go.Sort.flatK impl_CoarsenAt_del.enc 4 d.toArray) (j * 4 + i) (by omega), Go.Sort.get_flatK _ _ _ _ (by simp; omega), show (j * 4 + i) / 4 = j by omega, show (j * 4 + i) % 4 = i by omega, hdg, List.getElem?_eq_getElem (by rw [hlen]; exact hi), getElem!_pos _ i (by show i < (impl_CoarsenAt_del.enc d[j]).length; rw [hlen]; exact hi)]
 rw [if_neg hi, List.getElem?_eq_none (by rw [hlen]; omega)]
/-- What has been written over the row: its first part is a row of one's own again. -/
theorem impl_CoarsenAt_del.back (g cap : Nat) (l : List (S72)) (w : World) (base : Nat) (ok : Nat → Prop) (hR : Kd.R k72 72 w base ok (.slice (some ⟨g, 0, none⟩) l.length cap) l) (hl : 0 < l.length) (m : Nat) (os : Array Obj) (r rest : List (S72)) (hlen : r.length + rest.length = l.length) :
  Kd.R k72 72 (sortWorldK impl_CoarsenAt_del.enc 4 w g 0 m (r ++ rest).toArray os) base ok (.slice (some ⟨g, 0, none⟩) r.length cap) r ∧ w.grownBy (sortWorldK impl_CoarsenAt_del.enc 4 w g 0 m (r ++ rest).toArray os) (some g) := by
 obtain ⟨hok, inner, ⟨hil, hh⟩, hrep⟩ := hR
 have hsz4 : k72.sz = 4 := rfl
 rcases hh with ⟨e0, _⟩ | ⟨g', cap', cur, e0, hb, hg, hn, hm, hs, ht⟩
 ·cases e0
 injection e0 with e1 _ e3
 injection e1 with e1
 injection e1 with e1
 subst e1; subst e3
 rw [hsz4] at hil hs ht
 have hgl : g < w.heap.size := (Array.getElem?_eq_some_iff.1 hg).1
 have hga : w.grownBy (sortWorldK impl_CoarsenAt_del.enc 4 w g 0 m (r ++ rest).toArray os) (some g) := by
  refine ⟨rfl, rfl, rfl, by unfold sortWorldK Go.Sort.putRowK; rw [Go.Sort.size_grow, Go.Sort.size_putRow]; exact Nat.le_add_right _ _, fun i hi hni => ?_⟩
  unfold sortWorldK Go.Sort.putRowK
  rw [Go.Sort.heap_grow_old _ _ (by rw [Go.Sort.size_putRow]; exact hi)]
  have : g ≠ i := fun e => hni (by rw [e])
  simp [Go.Sort.putRow, Go.Sort.mapBlock, Go.Sort.ahead, Array.getElem?_modify, this]
 have hfs : (Go.Sort.flatK impl_CoarsenAt_del.enc 4 (r ++ rest).toArray).size = l.length * 4 := by rw [Go.Sort.size_flatK]; simp [hlen]
 have hfr : (Go.Sort.flatK impl_CoarsenAt_del.enc 4 r.toArray).size = r.length * 4 := by rw [Go.Sort.size_flatK]; simp
 refine ⟨⟨hok, (Go.Sort.flatK impl_CoarsenAt_del.enc 4 r.toArray).toList, ?_, ?_⟩, hga⟩
 ·rw [hsz4]
  refine ⟨by rw [Array.length_toList, hfr], .inr ⟨g, cap, Go.Sort.putCells id 0 (Go.Sort.flatK impl_CoarsenAt_del.enc 4 (r ++ rest).toArray) cur, rfl, hb, ?_, by omega, hm, by simpa [Go.Sort.putCells] using hs, ?_⟩⟩
  ·unfold sortWorldK Go.Sort.putRowK
   rw [Go.Sort.heap_grow_old _ _ (by rw [Go.Sort.size_putRow]; exact hgl)]
   simp [Go.Sort.putRow, Go.Sort.mapBlock, Go.Sort.ahead, Array.getElem?_modify, hg, Go.Sort.onCells]
  apply List.ext_getElem?
  intro j
  rw [List.getElem?_take, Array.getElem?_toList, Array.getElem?_toList]
  by_cases hj : j < r.length * 4
  ·have hjc : j < cur.size := by rw [hs]; have := Nat.mul_le_mul_right 4 hn; omega
   rw [if_pos hj]
   simp only [Go.Sort.putCells, Array.getElem?_mapIdx, Array.getElem?_eq_getElem hjc, Option.map_some]
   rw [if_pos ⟨Nat.zero_le _, by rw [hfs]; omega⟩, Array.getElem?_eq_getElem (by rw [hfr]; exact hj), Nat.sub_zero, ← getElem!_pos (Go.Sort.flatK impl_CoarsenAt_del.enc 4 r.toArray) j (by rw [hfr]; exact hj), Go.Sort.get_flatK _ _ _ _ (by simp; omega), Go.Sort.get_flatK _ _ _ _ (by simp; omega)]
   congr 3
   have hj4 : j / 4 < r.length := by omega
   rw [getElem!_pos (r ++ rest).toArray (j / 4) (by simp; omega), getElem!_pos r.toArray (j / 4) (by simpa using hj4)]
   simp [List.getElem_append_left hj4]
  rw [if_neg hj, Array.getElem?_eq_none (by rw [hfr]; omega)]
 refine ⟨by rw [Array.length_toList, hfr, hsz4], fun j p hj => ?_⟩
 rw [hsz4]
 have hjl : j < r.length := (List.getElem?_eq_some_iff.1 hj).1
 rw [impl_CoarsenAt_del.flat r j hjl, show r[j] = p from (List.getElem?_eq_some_iff.1 hj).2]
 exact k72_mkM _ _ _ p

def delix76_ren : Go.Shelf.Ren := ⟨fun | 6 => 76 | n => n, fun | 22 => 32 | 23 => 72 | 25 => 81 | 3 => 3 | 0 => 0 | 4 => 4 | n => n, fun | n => n⟩
theorem delix76 : Go.Proofs.SlLaysH0.n6 Try.prog delix76_ren := {
  mixed := by kernel_rfl
  f6 := ⟨Try.f76.name, by decide, Try.func76.trans (congrArg some (by kernel_rfl))⟩
  t0 := Try.underlying0
  a0 := Try.isAgg0
  z0 := Try.sizeOf0
  v0 := Try.zeroValue0
  t3 := Try.underlying3
  a3 := Try.isAgg3
  z3 := Try.sizeOf3
  v3 := Try.zeroValue3
  t4 := Try.underlying4
  a4 := Try.isAgg4
  z4 := Try.sizeOf4
  v4 := Try.zeroValue4
  t22 := Try.underlying32
  a22 := Try.isAgg32
  z22 := Try.sizeOf32
  v22 := Try.zeroValue32
  t25 := Try.underlying81
  a25 := Try.isAgg81
  z25 := Try.sizeOf81
  v25 := Try.zeroValue81 }
theorem impl_CoarsenAt_del.one (k : Nat) (a0 b0 b1 b2 : Int) (x : S72) (t : Bool) (ht : impl_holds.f k a0 b0 b1 b2 x.f0.f0 x.f0.f1 x.f0.f2 = some t) (Bp Bb : Nat) (w : World) (hp : w.cell? ⟨Bp, 0, none⟩ = some (.int .i64 a0)) (h0 : w.cell? ⟨Bb, 0, none⟩ = some (.int .i64 b0)) (h1 : w.cell? ⟨Bb, 1, none⟩ = some (.int .i64 b1)) (h2 : w.cell? ⟨Bb, 2, none⟩ = some (.int .i64 b2)) (hq : Bp < w.heap.size) (hb : Bb < w.heap.size) :
  Calls Try.prog 50 #[.agg #[.int .i64 x.f0.f0, .int .i64 x.f0.f1, .int .i64 x.f0.f2, .int .i64 x.f1], .pointer (some ⟨Bp, 0, none⟩), .pointer (some ⟨Bb, 0, none⟩)] w fun e w' => e = .returned (.bool t) ∧ Below w.heap.size w w' := by
 have hcon := fun W' => impl_holds.calls k a0 b0 b1 b2 x.f0.f0 x.f0.f1 x.f0.f2 t W' ht
 have hne : Bb ≠ w.heap.size := by omega
 have hnp : Bp ≠ w.heap.size := by omega
 go_enter Try.func50, Try.ntmps50
 go_wp2_with (go_at_call 51; refine (hcon _).mono ?_; rintro e w' ⟨rfl, hb'⟩)
 go_ret
 exact ⟨rfl, ((Below.refl _ w).alloc (Nat.le_refl _) _).trans (hb'.mono (by simp))⟩
/-- slices.DeleteFunc over a row of one's own: what the predicate does not name moves up, zeros behind it. -/
theorem impl_CoarsenAt_del.walk (p : S72 → Bool) (lb : Array Value) (g cap : Nat) (d : Array (S72)) (w : World) (dom : S72 → Prop) (hdom : ∀ j, j < d.size → dom d[j]!) (hpo : Go.Proofs.DelR.PredLow Try.prog 50 lb impl_CoarsenAt_del.enc 4 p g 0 d.size w dom) (hH : Go.Sort.HoldsK impl_CoarsenAt_del.enc 4 w g 0 d) (hblk : g < w.heap.size) (hsz : d.size ≤ 9223372036854775807) (hcap : d.size ≤ cap) (hcb : cap ≤ 9223372036854775807)
  (hIF : Calls Try.prog 76 #[.slice (some ⟨g, 0, none⟩) d.size cap, .func (.func 50) #[] lb] w fun e w' => e = .returned (.int .i64 (Lib.idxBy (fun _ y => p y) d.toList default)) ∧ ∃ q os, w' = sortWorldK impl_CoarsenAt_del.enc 4 (Go.Proofs.DelR.at_ w q) g 0 0 d os) :
  Calls Try.prog 48 #[.slice (some ⟨g, 0, none⟩) d.size cap, .func (.func 50) #[] lb] w fun e w' => e = .returned (.slice (some ⟨g, 0, none⟩) (d.toList.filter fun x => !p x).length cap) ∧ ∃ q os, w' = sortWorldK impl_CoarsenAt_del.enc 4 (Go.Proofs.DelR.at_ w q) g 0 0 ((d.toList.filter fun x => !p x) ++ List.replicate (d.size - (d.toList.filter fun x => !p x).length) z72).toArray os := by
 have tl : ∀ j, j < d.size → d.toList[j]! = d[j]! := fun j hj => by rw [getElem!_pos d j hj, getElem!_pos d.toList j (by simpa using hj)]; simp
 obtain ⟨kp, HK⟩ : ∃ kp : Nat → Bool, Aside0 (kp = fun j => !p d[j]!) := ⟨_, ⟨rfl⟩⟩
 have hfil : (d.toList.filter fun x => !p x) = Lib.keptUpTo kp d d.size := by rw [HK.out]; exact (Lib.keptUpTo_filter (fun x => !p x) d).symm
 rw [hfil]
 have hk4 : ∀ x : S72, (impl_CoarsenAt_del.enc x).length = 4 := fun _ => rfl
 rcases Go.Proofs.DelR.idx_spec (fun _ y => p y) default d.toList 0 with ⟨e1, hall⟩ | ⟨k0, hk0', e1, ht, hall⟩
 ·have e2 : Lib.idxBy (fun _ y => p y) d.toList default = -1 := e1
  rw [e2] at hIF
  have hkeep : ∀ j, j < d.size → kp j = true := fun j hj => by rw [HK.out]; show (!p d[j]!) = true; rw [← tl j hj, hall j (by simpa using hj)]; rfl
  have e3 : Lib.keptUpTo kp d d.size = d.toList := by rw [Lib.keptUpTo_all kp d _ hkeep, Lib.range_map_get]
  have HI := Aside0.mk hIF
  clear hH hpo hdom hIF
  go_enter Try.func48, Try.ntmps48
  go_wp2_with (go_at_call 76; refine HI.out.mono ?_; rintro e w' ⟨rfl, q0, os0, rfl⟩)
  go_ret
  rw [e3]
  refine ⟨by simp, q0, os0, ?_⟩
  simp
 have hk0'' : k0 < d.size := by simpa using hk0'
 have e2 : Lib.idxBy (fun _ y => p y) d.toList default = (k0 : Int) := by unfold Lib.idxBy; rw [e1]; simp
 rw [e2] at hIF
 have hkeep : ∀ j, j < k0 → kp j = true := fun j hj => by rw [HK.out]; show (!p d[j]!) = true; rw [← tl j (by omega), hall j hj]; rfl
 have hdrop : kp k0 = false := by rw [HK.out]; show (!p d[k0]!) = false; rw [← tl k0 hk0'']; rw [show p d.toList[k0]! = true from ht]; rfl
 have hne1 : ((k0 : Int) == -1) = false := beq_eq_false_iff_ne.2 (by omega)
 have HC := Aside0.mk hpo
 have HD := Aside0.mk hdom
 have HH := Aside0.mk hH
 have HI := Aside0.mk hIF
 clear hpo hH hall ht e1 e2 tl hdom hIF
 go_enter Try.func48, Try.ntmps48
 go_wp2_with (go_at_call 76; refine HI.out.mono ?_; rintro e w' ⟨rfl, q0, os0, rfl⟩)
 go_loopg [5, 6, 7] d.size (fun gg s5 s6 _ wr => ∃ (i j q : Nat) (os : Array Obj) (dk : Array (S72)), s5 = .int .i64 i ∧ s6 = .int .i64 j ∧ j ≤ d.size ∧ d.size - j ≤ gg ∧ wr = sortWorldK impl_CoarsenAt_del.enc 4 (Go.Proofs.DelR.at_ w q) g 0 0 dk os ∧ Aside0 (Lib.KeptInv kp d j i dk))
 case atStart => exact ⟨k0, k0 + 1, q0, os0, d, rfl, by go_num, by omega, by omega, rfl, ⟨Lib.KeptInv.start hkeep hdrop⟩⟩
 obtain ⟨i, j, q, os, dk, rfl, rfl, hjd, hgg, hwr, I2⟩ := hrel
 have hij := I2.out.lt
 have hds := I2.out.size
 have HHk : Aside0 (Go.Sort.HoldsK impl_CoarsenAt_del.enc 4 wr g 0 dk) := ⟨by rw [hwr]; exact holdsK_sortWorldK_c impl_CoarsenAt_del.enc 4 (Go.Proofs.DelR.at_ w q) g 0 d dk 0 os HH.out hblk hds⟩
 have W2 := Aside0.mk hwr
 have HG : Aside0 (g < wr.heap.size) := ⟨by rw [hwr]; exact Nat.lt_of_lt_of_le hblk (size_sortWorldK_c impl_CoarsenAt_del.enc 4 (Go.Proofs.DelR.at_ w q) g 0 0 dk os)⟩
 by_cases hlt : j < d.size
 ·have hltz : (j : Int) < (d.size : Int) := by omega
  have hltn : ¬ (d.size : Int) ≤ (j : Int) := by omega
  have hj0 : (0 : Int) ≤ (j : Int) := by omega
  have hin : (i : Int) < (d.size : Int) := by omega
  have hin0 : ¬ (d.size : Int) ≤ (i : Int) := by omega
  obtain ⟨u, hu⟩ : ∃ u, u = d[j]! := ⟨_, rfl⟩
  have hadd : ∀ (o n : Nat), (⟨g, o, none⟩ : Addr).add n = ⟨g, o + n, none⟩ := fun o n => by unfold Addr.add; split <;> simp_all
  have cj : ∀ (c : Nat) (v : Value), (impl_CoarsenAt_del.enc u)[c]? = some v → wr.cell? ⟨g, 0 + j * 4 + c, none⟩ = some v := fun c v hv => by
   rw [← hadd]
   refine Go.Proofs.HoldsK.cells HHk.out hk4 (i := j) (by omega) c v ?_
   rw [I2.out.high j (by omega), ← hu]
   exact hv
  rw [Nat.zero_add] at cj
  clear hadd
  have hcj0 : wr.cell? ⟨g, j * 4, none⟩ = some (.int .i64 u.f0.f0) := cj 0 _ rfl
  have hcj1 : wr.cell? ⟨g, j * 4 + 1, none⟩ = some (.int .i64 u.f0.f1) := cj 1 _ rfl
  have hcj2 : wr.cell? ⟨g, j * 4 + 2, none⟩ = some (.int .i64 u.f0.f2) := cj 2 _ rfl
  have hcj3 : wr.cell? ⟨g, j * 4 + 3, none⟩ = some (.int .i64 u.f1) := cj 3 _ rfl
  clear cj
  have hcall : ∀ W, Below wr.heap.size wr W → Calls Try.prog 50 (#[.agg #[.int .i64 u.f0.f0, .int .i64 u.f0.f1, .int .i64 u.f0.f2, .int .i64 u.f1]] ++ lb) W fun e w' => e = .returned (.bool (p u)) ∧ Below W.heap.size W w' := fun W hW => by
   obtain ⟨n, os', rfl⟩ := Go.Proofs.DelR.below_grow hW
   rw [W2.out, Go.Proofs.DelR.sortWorldK_at]
   exact HC.out n (os ++ os') dk hds u (hu ▸ HD.out j hlt)
  have HCA := Aside0.mk hcall
  -- the row's cells at the place to be written, in a world that has grown
  have hrow : ∀ w', Below wr.heap.size wr w' → ∀ t, t < 4 → (∃ v, w'.cell? ⟨g, i * 4 + t, none⟩ = some v) ∧ w'.frozen? ⟨g, i * 4 + t, none⟩ = false := fun w' hb t ht => by
   have h := HHk.out (i * 4 + t) (by rw [Go.Sort.size_flatK]; omega)
   rw [Nat.zero_add] at h
   refine ⟨⟨_, (hb.cell (p := ⟨g, i * 4 + t, none⟩) HG.out).trans h.1⟩, ?_⟩
   rw [← h.2]
   unfold World.frozen?
   rw [hb.block g HG.out]
  have HRW := Aside0.mk hrow
  have HU := Aside0.mk hu
  clear hcall hrow hu hwr
  cases hq : p u with
  | false =>
   rw [hq] at HCA
   go_wp2_with (first
    | ((refine gd_ 7 ?_); refine box_event ?hg (N := 7) ?hd (cs := #[.int .i64 0, .int .i64 0, .int .i64 0, .int .i64 0]) (t := 72) ?hr ?_; (case hd => rfl); (case hg => rfl); (case hr => first | (go_simp; done) | (go_simp; rfl)); intro gv hgv w1 hx1 hb1; have XV := Aside0.mk hx1; have HB1 := Aside0.mk hb1; have GV := Aside0.mk (show wr.heap.size ≤ gv by rw [hgv]; exact Nat.le_refl _); have NG := Aside0.mk (show g ≠ gv by rw [hgv]; exact Nat.ne_of_lt HG.out); clear hx1 hb1 hgv; have hz0 := (blk_cell XV.out 0).trans rfl; have hz1 := (blk_cell XV.out 1).trans rfl; have hz2 := (blk_cell XV.out 2).trans rfl; have hz3 := (blk_cell XV.out 3).trans rfl; have hf0 := blk_frozen XV.out 0; have hf1 := blk_frozen XV.out 1; have hf2 := blk_frozen XV.out 2; have hf3 := blk_frozen XV.out 3)
    | (go_at_call 50; refine (HCA.out _ ?hW).mono ?_; (case hW => exact below_set (below_set (below_set (below_set HB1.out GV.out) GV.out) GV.out) GV.out); rintro e w' ⟨rfl, hb'⟩; have XB := Aside0.mk (blk_below (g := gv) (o := .cells #[.int .i64 u.f0.f0, .int .i64 u.f0.f1, .int .i64 u.f0.f2, .int .i64 u.f1] 72 (0, 0)) (by refine blk_put (cs := #[.int .i64 u.f0.f0, .int .i64 u.f0.f1, .int .i64 u.f0.f2, .int .i64 0]) ?_ 3 _ rfl; refine blk_put (cs := #[.int .i64 u.f0.f0, .int .i64 u.f0.f1, .int .i64 0, .int .i64 0]) ?_ 2 _ rfl; refine blk_put (cs := #[.int .i64 u.f0.f0, .int .i64 0, .int .i64 0, .int .i64 0]) ?_ 1 _ rfl; refine blk_put (cs := #[.int .i64 0, .int .i64 0, .int .i64 0, .int .i64 0]) ?_ 0 _ rfl; exact XV.out) hb'); have HB2 := Aside0.mk (below_step (below_set (below_set (below_set (below_set HB1.out GV.out) GV.out) GV.out) GV.out) hb'); clear hb'; have hv0 : w'.cell? ⟨gv, 0, none⟩ = some (.int .i64 u.f0.f0) := (blk_cell XB.out 0).trans rfl; have hv1 : w'.cell? ⟨gv, 1, none⟩ = some (.int .i64 u.f0.f1) := (blk_cell XB.out 1).trans rfl; have hv2 : w'.cell? ⟨gv, 2, none⟩ = some (.int .i64 u.f0.f2) := (blk_cell XB.out 2).trans rfl; have hv3 : w'.cell? ⟨gv, 3, none⟩ = some (.int .i64 u.f1) := (blk_cell XB.out 3).trans rfl; obtain ⟨⟨o0, hs0⟩, hg0⟩ := HRW.out w' HB2.out 0 (by decide); obtain ⟨⟨o1, hs1⟩, hg1⟩ := HRW.out w' HB2.out 1 (by decide); obtain ⟨⟨o2, hs2⟩, hg2⟩ := HRW.out w' HB2.out 2 (by decide); obtain ⟨⟨o3, hs3⟩, hg3⟩ := HRW.out w' HB2.out 3 (by decide); rw [Nat.add_zero] at hs0 hg0))
   go_roundg (d.size - (j + 1))
   case measure => omega
   obtain ⟨n, os', hw'⟩ := Go.Proofs.DelR.below_grow HB2.out
   refine ⟨i + 1, j + 1, n, os ++ os', dk.setIfInBounds i u, by go_num, by go_num, by omega, Nat.le_refl _, ?_, ⟨?_⟩⟩
   ·have h := Go.Proofs.DelR.sortWorldK_set impl_CoarsenAt_del.enc 4 hk4 (Go.Proofs.DelR.at_ w n) 0 g 0 dk (os ++ os') hblk i u (by omega)
    rw [← h, ← Go.Proofs.DelR.sortWorldK_at _ _ _ _ _ q, ← W2.out, ← hw', Nat.zero_add]
    rfl
   have := I2.out.keep hlt (by rw [HK.out]; show (!p d[j]!) = true; rw [← HU.out, hq]; rfl)
   rwa [← HU.out] at this
  | true =>
   rw [hq] at HCA
   go_wp2_with (first
    | ((refine gd_ 7 ?_); refine box_event ?hg (N := 7) ?hd (cs := #[.int .i64 0, .int .i64 0, .int .i64 0, .int .i64 0]) (t := 72) ?hr ?_; (case hd => rfl); (case hg => rfl); (case hr => first | (go_simp; done) | (go_simp; rfl)); intro gv hgv w1 hx1 hb1; have XV := Aside0.mk hx1; have HB1 := Aside0.mk hb1; have GV := Aside0.mk (show wr.heap.size ≤ gv by rw [hgv]; exact Nat.le_refl _); clear hx1 hb1 hgv; have hz0 := (blk_cell XV.out 0).trans rfl; have hz1 := (blk_cell XV.out 1).trans rfl; have hz2 := (blk_cell XV.out 2).trans rfl; have hz3 := (blk_cell XV.out 3).trans rfl; have hf0 := blk_frozen XV.out 0; have hf1 := blk_frozen XV.out 1; have hf2 := blk_frozen XV.out 2; have hf3 := blk_frozen XV.out 3)
    | (go_at_call 50; refine (HCA.out _ ?hW).mono ?_; (case hW => exact below_set (below_set (below_set (below_set HB1.out GV.out) GV.out) GV.out) GV.out); rintro e w' ⟨rfl, hb'⟩; have HB2 := Aside0.mk (below_step (below_set (below_set (below_set (below_set HB1.out GV.out) GV.out) GV.out) GV.out) hb'); clear hb'))
   go_roundg (d.size - (j + 1))
   case measure => omega
   obtain ⟨n, os', hw'⟩ := Go.Proofs.DelR.below_grow HB2.out
   exact ⟨i, j + 1, n, os ++ os', dk, rfl, by go_num, by omega, Nat.le_refl _, by rw [hw', W2.out]; exact Go.Proofs.DelR.sortWorldK_at _ _ _ _ _ _ _ _ _ _, ⟨I2.out.skip (by rw [HK.out]; show (!p d[j]!) = false; rw [← HU.out, hq]; rfl)⟩⟩
 obtain rfl : j = d.size := by omega
 have hltz : ¬ (d.size : Int) < (d.size : Int) := by omega
 have h1 : ∀ x : S72, ∀ v ∈ impl_CoarsenAt_del.enc x, v.oneCell' = true := fun x v hv => by simp only [impl_CoarsenAt_del.enc, List.mem_cons, List.not_mem_nil, or_false] at hv; rcases hv with rfl | rfl | rfl | rfl <;> rfl
 have cell (t : Nat) (ht : t < (d.size - i) * 4) : wr.cell? ⟨g, i * 4 + t, none⟩ = some ((Go.Sort.flatK impl_CoarsenAt_del.enc 4 dk)[i * 4 + t]!) ∧ wr.frozen? ⟨g, i * 4 + t, none⟩ = false := by
  have := HHk.out (i * 4 + t) (by rw [Go.Sort.size_flatK, hds]; omega)
  rw [Nat.zero_add] at this
  exact this
 have hcl : ∀ ty, (Builtin.clear_ #[32] ty #[.slice (some ⟨g, i * 4, none⟩) (d.size - i) (cap - i)]).run Try.prog wr = .ok (.tuple #[]) (wr.setCells g (i * 4) ((List.replicate (d.size - i) z72).flatMap impl_CoarsenAt_del.enc)) :=
  fun ty => Go.Proofs.DelR.run_clear_k impl_CoarsenAt_del.enc 4 hk4 h1 wr _ _ ty z72 Try.underlying32 Try.zeroValue72 g (i * 4) _ _ (by omega) (fun t ht => by rw [(cell t ht).1]; rfl) (fun t ht => (cell t ht).2)
 have hil : (i : Int) ≤ (d.size : Int) := by omega
 have hic : (i : Int) ≤ (cap : Int) := by omega
 clear hwr cell
 go_wp2
 go_ret
 have hI := I2.out
 refine ⟨by rw [hI.len]; rfl, q, os, ?_⟩
 rw [hI.len, ← hI.done z72, W2.out]
 have := Go.Proofs.DelR.sortWorldK_lay impl_CoarsenAt_del.enc 4 hk4 (Go.Proofs.DelR.at_ w q) 0 g 0 os hblk (List.replicate (d.size - i) z72) dk i (by simp; omega)
 rw [Nat.zero_add] at this
 exact this
def impl_CoarsenAt_del.f (k : Nat) (l0 : List (S72)) (a1 a2_0 a2_1 a2_2 : Int) : Option (List (S72)) :=
 if 0 < l0.length ∧ (l0.all fun x => (impl_holds.f k a1 a2_0 a2_1 a2_2 x.f0.f0 x.f0.f1 x.f0.f2).isSome) = true then some (l0.filter fun x => !(impl_holds.f k a1 a2_0 a2_1 a2_2 x.f0.f0 x.f0.f1 x.f0.f2).getD false) else none
theorem impl_CoarsenAt_del.calls (k : Nat) (P0_ : Nat → Prop) (u0_ : Value) (l0 : List (S72)) (a1 a2_0 a2_1 a2_2 : Int) (r : List (S72)) (w0 w : World) (Bp Bb : Nat) (hBp : w.heap[Bp]? = some (.cells #[.int .i64 a1] 2 (0, 0))) (hBb : w.heap[Bb]? = some (.cells #[.int .i64 a2_0, .int .i64 a2_1, .int .i64 a2_2] 31 (0, 0))) (hB : Below w0.heap.size w0 w) (ho0 : Kd.R k72 72 w w0.heap.size P0_ u0_ l0) (h : impl_CoarsenAt_del.f k l0 a1 a2_0 a2_1 a2_2 = some r) :
  Calls Try.prog 48 #[u0_, .func (.func 50) #[] #[.pointer (some ⟨Bp, 0, none⟩), .pointer (some ⟨Bb, 0, none⟩)]] w fun e w' => ∃ v1_ : Value, e = .returned v1_ ∧ Kd.R k72 72 w' w0.heap.size (fun k_ => (P0_ k_ ∨ w.heap.size ≤ k_)) v1_ r ∧ Below w0.heap.size w0 w' ∧ Kept w w' (fun k_ => P0_ k_) := by
 unfold impl_CoarsenAt_del.f at h
 have hl : 0 < l0.length ∧ (l0.all fun x => (impl_holds.f k a1 a2_0 a2_1 a2_2 x.f0.f0 x.f0.f1 x.f0.f2).isSome) = true := Classical.byContradiction fun hn => by rw [if_neg hn] at h; cases h
 rw [if_pos hl] at h
 have hr := Option.some.inj h
 clear h
 obtain ⟨hl0, hall⟩ := hl
 rw [List.all_eq_true] at hall
 obtain ⟨g, cap, rfl, hbase, hgl, _, _⟩ := Kd.R_form ho0 hl0
 have hP : P0_ g := ho0.1 g rfl
 obtain ⟨hH, _, hn, hm, _, cur, hcur⟩ := impl_CoarsenAt_del.row g cap l0 w w0.heap.size P0_ ho0 hl0
 have hbp : Bp < w.heap.size := (Array.getElem?_eq_some_iff.1 hBp).1
 have hbb : Bb < w.heap.size := (Array.getElem?_eq_some_iff.1 hBb).1
 have hpg : Bp ≠ g := fun e => by rw [e, hcur] at hBp; injection hBp with h1; injection h1 with _ h2; exact absurd h2 (by decide)
 have hbg : Bb ≠ g := fun e => by rw [e, hcur] at hBb; injection hBb with h1; injection h1 with _ h2; exact absurd h2 (by decide)
 have hcp : w.cell? ⟨Bp, 0, none⟩ = some (.int .i64 a1) := by unfold World.cell?; rw [hBp]; rfl
 have hcb : ∀ i v, (#[.int .i64 a2_0, .int .i64 a2_1, .int .i64 a2_2] : Array Value)[i]? = some v → w.cell? ⟨Bb, i, none⟩ = some v := fun i v h => by
  unfold World.cell?
  rw [hBb]
  exact h
 have hd : ∀ j, j < l0.toArray.size → l0.toArray[j]! ∈ l0 := fun j hj => by
  rw [getElem!_pos l0.toArray j hj]
  simp
 have hpl : Go.Proofs.DelR.PredLow Try.prog 50 #[.pointer (some ⟨Bp, 0, none⟩), .pointer (some ⟨Bb, 0, none⟩)] impl_CoarsenAt_del.enc 4 (fun x => (impl_holds.f k a1 a2_0 a2_1 a2_2 x.f0.f0 x.f0.f1 x.f0.f2).getD false) g 0 l0.toArray.size w (fun x => x ∈ l0) := by
  intro m os dk hdk x hx
  obtain ⟨t, ht⟩ := Option.isSome_iff_exists.1 (hall x hx)
  have e : ∀ u v z : Value, (#[u] ++ #[v, z] : Array Value) = #[u, v, z] := fun _ _ _ => by simp
  have far : ∀ (q i : Nat) (v : Value), q < w.heap.size → q ≠ g → w.cell? ⟨q, i, none⟩ = some v → (sortWorldK impl_CoarsenAt_del.enc 4 (Go.Proofs.DelR.at_ w m) g 0 0 dk os).cell? ⟨q, i, none⟩ = some v := fun q i v hq hne hc => by
   unfold sortWorldK
   rw [Go.Sort.cell?_grow _ _ _ (by show q < _; unfold Go.Sort.putRowK; rw [Go.Sort.size_putRow]; exact hq), Go.Sort.cell?_putRowK_other _ _ _ _ _ _ _ hne]
   exact hc
  have big : ∀ q, q < w.heap.size → q < (sortWorldK impl_CoarsenAt_del.enc 4 (Go.Proofs.DelR.at_ w m) g 0 0 dk os).heap.size := fun q hq => by
   unfold sortWorldK Go.Sort.putRowK
   rw [Go.Sort.size_grow, Go.Sort.size_putRow]
   exact Nat.lt_of_lt_of_le hq (Nat.le_add_right _ _)
  have h := impl_CoarsenAt_del.one k a1 a2_0 a2_1 a2_2 x t ht Bp Bb _ (far _ _ _ hbp hpg hcp) (far _ _ _ hbb hbg (hcb 0 _ rfl)) (far _ _ _ hbb hbg (hcb 1 _ rfl)) (far _ _ _ hbb hbg (hcb 2 _ rfl)) (big _ hbp) (big _ hbb)
  rw [← e] at h
  refine h.mono ?_
  rintro e w' ⟨rfl, hb'⟩
  refine ⟨?_, hb'⟩
  show _ = Ending.returned (.bool ((impl_holds.f k a1 a2_0 a2_1 a2_2 x.f0.f0 x.f0.f1 x.f0.f2).getD false))
  rw [ht]; rfl
 have hone : ∀ x : S72, ∀ v ∈ impl_CoarsenAt_del.enc x, v.oneCell' = true := fun x v hv => by simp only [impl_CoarsenAt_del.enc, List.mem_cons, List.not_mem_nil, or_false] at hv; rcases hv with rfl | rfl | rfl | rfl <;> rfl
 have hif := Go.Proofs.DelR.slices_IndexFunc (P := Try.prog) delix76 4 Try.isAgg72 Try.sizeOf72 impl_CoarsenAt_del.enc (fun _ => rfl) (fun x => (impl_holds.f k a1 a2_0 a2_1 a2_2 x.f0.f0 x.f0.f1 x.f0.f2).getD false) 50 #[.pointer (some ⟨Bp, 0, none⟩), .pointer (some ⟨Bb, 0, none⟩)] (enters_of Try.func50 (by kernel_rfl) rfl) g 0 cap l0.toArray w _ hd hpl hH hgl (by simp; omega)
 have hcon := impl_CoarsenAt_del.walk (fun x => (impl_holds.f k a1 a2_0 a2_1 a2_2 x.f0.f0 x.f0.f1 x.f0.f2).getD false) #[.pointer (some ⟨Bp, 0, none⟩), .pointer (some ⟨Bb, 0, none⟩)] g cap l0.toArray w _ hd hpl hH hgl (by simp; omega) (by simpa using hn) hm hif
 change Calls Try.prog 48 _ _ _ at hcon
 have ha : l0.toArray.toList = l0 := by simp
 have hs : l0.toArray.size = l0.length := by simp
 rw [ha, hs, hr] at hcon
 have hrl : r.length ≤ l0.length := by rw [← hr]; exact List.length_filter_le _ _
 refine hcon.mono ?_
 rintro e w' ⟨rfl, n, os, rfl⟩
 obtain ⟨b1, b2⟩ := impl_CoarsenAt_del.back g cap l0 w w0.heap.size P0_ ho0 hl0 0 os r (List.replicate (l0.length - r.length) z72) (by simp; omega)
 have e3 : sortWorldK impl_CoarsenAt_del.enc 4 (Go.Proofs.DelR.at_ w n) g 0 0 (r ++ List.replicate (l0.length - r.length) z72).toArray os = Go.Proofs.DelR.at_ (sortWorldK impl_CoarsenAt_del.enc 4 w g 0 0 (r ++ List.replicate (l0.length - r.length) z72).toArray os) n := rfl
 rw [e3]
 have c2 : w.grownBy (Go.Proofs.DelR.at_ (sortWorldK impl_CoarsenAt_del.enc 4 w g 0 0 (r ++ List.replicate (l0.length - r.length) z72).toArray os) n) (some g) := ⟨b2.os, b2.tape, b2.output, b2.size, b2.block⟩
 refine ⟨_, rfl, Kd.R_mono (w := Go.Proofs.DelR.at_ (sortWorldK impl_CoarsenAt_del.enc 4 w g 0 0 (r ++ List.replicate (l0.length - r.length) z72).toArray os) n) b1 (fun _ hk => .inl hk), ?_, ?_⟩
 ·exact hB.grown c2 hB.size (fun k_ hk => by rw [← Option.some.inj hk]; exact hbase)
 exact Kept.of_grown c2 (Kept.of_below (Below.refl _ _) _) (fun k_ hk => by rw [← Option.some.inj hk]; exact .inl hP)

/-! ### impl_CoarsenAt: function 18 -/
def impl_CoarsenAt.j0 : Nat → Bool → Int → Int → Int → Int → List (S72) → Int → Int → Int → Option (Int × Int × Int × (List (S72)) × Int)
 | 0, _, _, _, _, _, _, _, _, _ => none
 | k + 1, x29, x370000, x371000, x371001, x371002, x371003, x372000, x372001, x372002 => if x29 = true then (some (0, 0, 0, ([] : List (S72)), 5)) else ((impl_total.f k x370000 x371000 x371001 x371002 x371003 x372000 x372001 x372002).bind fun bt376 => (if bt376.2 = true then ((slices_Clone_impl_Piece.f x371003).bind fun t378 => ((impl_CoarsenAt_del.f k t378 x370000 x372000 x372001 x372002).bind fun t381 => (if t381.length < 4398046511104 then ((impl_sorted.f k x370000 x371000 x371001 x371002 (t381 ++ [(⟨(⟨x372000, x372001, x372002⟩ : S31), bt376.1⟩ : S72)])).bind fun bt387 => (some (bt387.1, bt387.2.1, bt387.2.2.1, bt387.2.2.2, 0))) else (none)))) else (some (0, 0, 0, ([] : List (S72)), 3))))
def impl_CoarsenAt.f (k : Nat) (a0 a1_0 a1_1 a1_2 : Int) (l1_3 : List (S72)) (a2_0 a2_1 a2_2 : Int) : Option (Int × Int × Int × (List (S72)) × Int) := (impl_measureCode.f k a0 a1_0 a1_1 a1_2 l1_3 a2_0 a2_1 a2_2).bind fun t373 => (if t373 = 0 then ((impl_pieceAt.f a1_0 a1_1 a1_2 l1_3 a2_0 a2_1 a2_2).bind fun t374 => (if t374 ≥ 0 then (impl_CoarsenAt.j0 k true a0 a1_0 a1_1 a1_2 l1_3 a2_0 a2_1 a2_2) else ((impl_inPiece.f k a0 a1_0 a1_1 a1_2 l1_3 a2_0 a2_1 a2_2).bind fun t375 => (impl_CoarsenAt.j0 k t375 a0 a1_0 a1_1 a1_2 l1_3 a2_0 a2_1 a2_2)))) else (some (0, 0, 0, ([] : List (S72)), t373)))
def impl_CoarsenAt.T10 : Bool × List (List Nat × List Nat) := (true, [([], []), ([], []), ([1], [1]), ([], []), ([], []), ([], []), ([4, 5], [4, 5]), ([6], [6]), ([3, 7], [3, 7]), ([0, 2, 8, 8], [0, 2, 8]), ([9, 9, 0, 1, 2, 3, 4, 5, 6, 7, 8, 9], [9]), ([10, 0, 1, 2, 3, 4, 5, 6, 7, 8, 9, 10], [])])
def impl_CoarsenAt.B10 : List Nat := [0, 0, 2, 0, 0, 0, 48, 112, 248, 511, 1023, 2047]
theorem impl_CoarsenAt.tab10 : rtab .any (opsOf Try.f18 10) = impl_CoarsenAt.T10 := by kernel_rfl
theorem impl_CoarsenAt.bits10 : waitsOk impl_CoarsenAt.T10.2 impl_CoarsenAt.B10 = true := by kernel_rfl
theorem impl_CoarsenAt.calls (k : Nat) (a0 a1_0 a1_1 a1_2 : Int) (A1_3 : Option Addr) (c1_3 : Nat) (l1_3 : List (S72)) (a2_0 a2_1 a2_2 r1 r2 r3 : Int) (r4 : List (S72)) (r5 : Int) (w : World) (hr1_3 : Kd.C k72 w A1_3 l1_3.length l1_3) (hc1_3 : l1_3.length ≤ c1_3) (h : impl_CoarsenAt.f k a0 a1_0 a1_1 a1_2 l1_3 a2_0 a2_1 a2_2 = some (r1, r2, r3, r4, r5)) :
  Calls Try.prog 18 #[.int .i64 a0, .agg #[.int .i64 a1_0, .int .i64 a1_1, .int .i64 a1_2, .slice A1_3 l1_3.length c1_3], .agg #[.int .i64 a2_0, .int .i64 a2_1, .int .i64 a2_2]] w fun e w' => ∃ v3_ : Value, e = .returned (.tuple #[.agg #[.int .i64 r1, .int .i64 r2, .int .i64 r3, v3_], .int .i64 r5]) ∧ Kd.R k72 72 w' w.heap.size (fun _ => True) v3_ r4 ∧ Below w.heap.size w w' := by
 have hu34 := Try.underlying34
 have hu31 := Try.underlying31
 have hu72 := Try.underlying72
 have HR1_3 := Aside0.mk hr1_3
 have HC1_3 := Aside0.mk hc1_3
 clear hr1_3 hc1_3
 have HB := Aside0.mk (Below.refl w.heap.size w)
 unfold impl_CoarsenAt.f at h
 have H := h
 clear h
 replace H := oc_ H
 obtain ⟨t373, A4, H⟩ := H
 replace H := ie_ H
 rcases H with ⟨c5b0, c5b1, H⟩ | ⟨c5, c5b0, c5b1, H⟩
 ·have HC6 := Aside0.mk H
  clear H
  go_enter Try.func18, Try.ntmps18
  go_upto_region 4 with (first | ((refine gd_ 3 ?_); refine by_ 3 #[.int .i64 a0] 2 HB ?_; intro gb369 hg w7 BK369 hb GW369 HB_; replace HB := HB_; clear hb hg) | ((refine gd_ 4 ?_); refine by_ 4 #[.int .i64 a1_0, .int .i64 a1_1, .int .i64 a1_2, .slice A1_3 l1_3.length c1_3] 34 HB ?_; intro gb370 hg w8 BK370 hb GW370 HB_; have NB369_370 := bm_ BK369 hg; have NB370_369 := bn_ BK369 hg; replace BK369 := bb_ BK369 hb; replace HB := HB_; clear hb hg) | ((refine gd_ 5 ?_); refine by_ 5 #[.int .i64 a2_0, .int .i64 a2_1, .int .i64 a2_2] 31 HB ?_; intro gb371 hg w9 BK371 hb GW371 HB_; have NB369_371 := bm_ BK369 hg; have NB371_369 := bn_ BK369 hg; have NB370_371 := bm_ BK370 hg; have NB371_370 := bn_ BK370 hg; replace BK369 := bb_ BK369 hb; replace BK370 := bb_ BK370 hb; replace HB := HB_; clear hb hg) | ((refine gd_ 6 ?_); refine by_ 6 #[.int .i64 0, .int .i64 0, .int .i64 0, .slice none 0 0] 34 HB ?_; intro gb372 hg w10 BK372 hb GW372 HB_; have NB369_372 := bm_ BK369 hg; have NB372_369 := bn_ BK369 hg; have NB370_372 := bm_ BK370 hg; have NB372_370 := bn_ BK370 hg; have NB371_372 := bm_ BK371 hg; have NB372_371 := bn_ BK371 hg; replace BK369 := bb_ BK369 hb; replace BK370 := bb_ BK370 hb; replace BK371 := bb_ BK371 hb; replace HB := HB_; clear hb hg; have hnb11 := NB369_370.out; have hnc11 := NB370_369.out; have hnb12 := NB369_371.out; have hnc12 := NB371_369.out; have hnb13 := NB369_372.out; have hnc13 := NB372_369.out; obtain ⟨hcz14_0, hfz14_0⟩ := ch1_ BK369; have hnb15 := NB370_371.out; have hnc15 := NB371_370.out; have hnb16 := NB370_372.out; have hnc16 := NB372_370.out; obtain ⟨hcz17_0, hcz17_1, hcz17_2, hcz17_3, hfz17_0, hfz17_1, hfz17_2, hfz17_3⟩ := ch4_ BK370; have hnb18 := NB371_372.out; have hnc18 := NB372_371.out; obtain ⟨hcz19_0, hcz19_1, hcz19_2, hfz19_0, hfz19_1, hfz19_2⟩ := ch3_ BK371) | ((refine gc_ 44 ?_); refine ge_ 15 Try.func44 #[.int .i64 a0, .agg #[.int .i64 a1_0, .int .i64 a1_1, .int .i64 a1_2, .slice A1_3 l1_3.length c1_3], .agg #[.int .i64 a2_0, .int .i64 a2_1, .int .i64 a2_2]] ?_; (with_reducible refine (impl_measureCode.calls k a0 a1_0 a1_1 a1_2 _ _ l1_3 a2_0 a2_1 a2_2 t373 _ ?side1 ?side2 A4.out).mono ?_); (case side1 => exact ca_ (Kd.C_below HR1_3.out HB.out)); (case side2 => exact HC1_3.out); rintro e w20 ⟨rfl, hb⟩; refine ⟨_, rfl, ?_⟩; replace BK369 := bb_ BK369 hb; replace BK370 := bb_ BK370 hb; replace BK371 := bb_ BK371 hb; replace BK372 := bb_ BK372 hb; replace HB := bt_ HB hb; (try clear hb)))
  (try simp only [Act.put, lstS, lstZ, lstC])
  go_cut [29] (fun v29 wc => ∃ (kq : Nat) (x29_5 : Bool), v29 = .bool x29_5 ∧ Aside0 (impl_CoarsenAt.j0 kq x29_5 a0 a1_0 a1_1 a1_2 l1_3 a2_0 a2_1 a2_2 = some (r1, r2, r3, r4, r5)) ∧ Aside0 (kq ≤ k) ∧ Aside0 (wc.heap[gb369]? = some (.cells #[.int .i64 a0] 2 (0, 0))) ∧ Aside0 (wc.heap[gb370]? = some (.cells #[.int .i64 a1_0, .int .i64 a1_1, .int .i64 a1_2, (.slice A1_3 l1_3.length c1_3)] 34 (0, 0))) ∧ Aside0 (wc.heap[gb371]? = some (.cells #[.int .i64 a2_0, .int .i64 a2_1, .int .i64 a2_2] 31 (0, 0))) ∧ Aside0 (wc.heap[gb372]? = some (.cells #[.int .i64 0, .int .i64 0, .int .i64 0, (.slice none 0 0)] 34 (0, 0))) ∧ Aside0 (Below w.heap.size w wc))
  case first =>
   have H := HC6.out
   clear HC6
   replace H := oc_ H
   obtain ⟨t374, A21, H⟩ := H
   replace H := in_ H
   rcases H with ⟨c22b0, H⟩ | ⟨c22b0, H⟩
   ·(first | rw [c22b0] | (simp only [i64_w, i32_w]; rw [c22b0]) | skip)
    have H' := Aside0.mk H
    clear H
    have hnb23 := NB370_369.out
    have hnc23 := NB369_370.out
    have hnb24 := NB370_371.out
    have hnc24 := NB371_370.out
    have hnb25 := NB370_372.out
    have hnc25 := NB372_370.out
    obtain ⟨hcz26_0, hcz26_1, hcz26_2, hcz26_3, hfz26_0, hfz26_1, hfz26_2, hfz26_3⟩ := ch4_ BK370
    have hnb27 := NB371_369.out
    have hnc27 := NB369_371.out
    have hnb28 := NB371_372.out
    have hnc28 := NB372_371.out
    obtain ⟨hcz29_0, hcz29_1, hcz29_2, hfz29_0, hfz29_1, hfz29_2⟩ := ch3_ BK371
    go_wp2_with (first | ((refine gc_ 45 ?_); refine ge_ 22 Try.func45 #[.agg #[.int .i64 a1_0, .int .i64 a1_1, .int .i64 a1_2, .slice A1_3 l1_3.length c1_3], .agg #[.int .i64 a2_0, .int .i64 a2_1, .int .i64 a2_2]] ?_; (with_reducible refine (impl_pieceAt.calls a1_0 a1_1 a1_2 _ _ l1_3 a2_0 a2_1 a2_2 t374 _ ?side1 ?side2 A21.out).mono ?_); (case side1 => exact ca_ (Kd.C_below HR1_3.out (bw_ HB).out)); (case side2 => exact HC1_3.out); rintro e w30 ⟨rfl, hb⟩; refine ⟨_, rfl, ?_⟩; replace BK369 := bb_ BK369 hb; replace BK370 := bb_ BK370 hb; replace BK371 := bb_ BK371 hb; replace BK372 := bb_ BK372 hb; replace HB := bt_ HB hb; (try clear hb)))
    go_meet
    case rel => exact ⟨_, (true), en_, H', ⟨by first | omega | exact Nat.le_refl _⟩, bl_ BK369, bl_ BK370, bl_ BK371, bl_ BK372, bw_ HB⟩
   (first | rw [c22b0] | (simp only [i64_w, i32_w]; rw [c22b0]) | skip)
   replace H := oc_ H
   obtain ⟨t375, A31, H⟩ := H
   have H' := Aside0.mk H
   clear H
   have hnb32 := NB370_369.out
   have hnc32 := NB369_370.out
   have hnb33 := NB370_371.out
   have hnc33 := NB371_370.out
   have hnb34 := NB370_372.out
   have hnc34 := NB372_370.out
   obtain ⟨hcz35_0, hcz35_1, hcz35_2, hcz35_3, hfz35_0, hfz35_1, hfz35_2, hfz35_3⟩ := ch4_ BK370
   have hnb36 := NB371_369.out
   have hnc36 := NB369_371.out
   have hnb37 := NB371_372.out
   have hnc37 := NB372_371.out
   obtain ⟨hcz38_0, hcz38_1, hcz38_2, hfz38_0, hfz38_1, hfz38_2⟩ := ch3_ BK371
   go_wp2_with (first | ((refine gc_ 45 ?_); refine ge_ 22 Try.func45 #[.agg #[.int .i64 a1_0, .int .i64 a1_1, .int .i64 a1_2, .slice A1_3 l1_3.length c1_3], .agg #[.int .i64 a2_0, .int .i64 a2_1, .int .i64 a2_2]] ?_; (with_reducible refine (impl_pieceAt.calls a1_0 a1_1 a1_2 _ _ l1_3 a2_0 a2_1 a2_2 t374 _ ?side1 ?side2 A21.out).mono ?_); (case side1 => exact ca_ (Kd.C_below HR1_3.out (bw_ HB).out)); (case side2 => exact HC1_3.out); rintro e w39 ⟨rfl, hb⟩; refine ⟨_, rfl, ?_⟩; replace BK369 := bb_ BK369 hb; replace BK370 := bb_ BK370 hb; replace BK371 := bb_ BK371 hb; replace BK372 := bb_ BK372 hb; replace HB := bt_ HB hb; (try clear hb); have hnb40 := NB369_372.out; have hnc40 := NB372_369.out; obtain ⟨hcz41_0, hfz41_0⟩ := ch1_ BK369; obtain ⟨hcz42_0, hcz42_1, hcz42_2, hcz42_3, hfz42_0, hfz42_1, hfz42_2, hfz42_3⟩ := ch4_ BK370; obtain ⟨hcz43_0, hcz43_1, hcz43_2, hfz43_0, hfz43_1, hfz43_2⟩ := ch3_ BK371) | (go_at_call 46; (with_reducible refine (impl_inPiece.calls k a0 a1_0 a1_1 a1_2 _ _ l1_3 a2_0 a2_1 a2_2 t375 _ ?side1 ?side2 A31.out).mono ?_); (case side1 => exact ca_ (Kd.C_below HR1_3.out HB.out)); (case side2 => exact HC1_3.out); rintro e w44 ⟨rfl, hb⟩; replace BK369 := bb_ BK369 hb; replace BK370 := bb_ BK370 hb; replace BK371 := bb_ BK371 hb; replace BK372 := bb_ BK372 hb; replace HB := bt_ HB hb; (try clear hb)))
   go_meet
   case rel => exact ⟨_, (t375), en_, H', ⟨by first | omega | exact Nat.le_refl _⟩, bl_ BK369, bl_ BK370, bl_ BK371, bl_ BK372, bw_ HB⟩
  clear HC6
  try clear c5
  try clear c5b0
  try clear c5b1
  try clear c22b0
  try clear hcz14_0
  try clear hcz17_0 hcz17_1 hcz17_2 hcz17_3
  try clear hcz19_0 hcz19_1 hcz19_2
  try clear hcz26_0 hcz26_1 hcz26_2 hcz26_3
  try clear hcz29_0 hcz29_1 hcz29_2
  try clear hcz35_0 hcz35_1 hcz35_2 hcz35_3
  try clear hcz38_0 hcz38_1 hcz38_2
  try clear hcz41_0
  try clear hcz42_0 hcz42_1 hcz42_2 hcz42_3
  try clear hcz43_0 hcz43_1 hcz43_2
  try clear hfz14_0
  try clear hfz17_0 hfz17_1 hfz17_2 hfz17_3
  try clear hfz19_0 hfz19_1 hfz19_2
  try clear hfz26_0 hfz26_1 hfz26_2 hfz26_3
  try clear hfz29_0 hfz29_1 hfz29_2
  try clear hfz35_0 hfz35_1 hfz35_2 hfz35_3
  try clear hfz38_0 hfz38_1 hfz38_2
  try clear hfz41_0
  try clear hfz42_0 hfz42_1 hfz42_2 hfz42_3
  try clear hfz43_0 hfz43_1 hfz43_2
  obtain ⟨kq, x29_5, rfl, HA, HJ5, BK369, BK370, BK371, BK372, HB⟩ := hcut
  cases kq with
  | zero => exact absurd HA.out (by simp [impl_CoarsenAt.j0])
  | succ kj5 =>
   have H := HA.out
   clear HA
   simp only [impl_CoarsenAt.j0] at H
   replace H := ib_ H
   rcases H with ⟨rfl, H⟩ | ⟨rfl, H⟩
   ·simp only [Option.some.injEq, Prod.mk.injEq] at H
    obtain ⟨rfl, rfl, rfl, rfl, rfl⟩ := H
    have hnb46 := NB372_369.out
    have hnc46 := NB369_372.out
    have hnb47 := NB372_370.out
    have hnc47 := NB370_372.out
    have hnb48 := NB372_371.out
    have hnc48 := NB371_372.out
    obtain ⟨hcz49_0, hcz49_1, hcz49_2, hcz49_3, hfz49_0, hfz49_1, hfz49_2, hfz49_3⟩ := ch4_ BK372
    go_wp2
    refine bodyPost_ret (results_ct rfl _ _ gb372 34 #[.int .i64 0, .int .i64 0, .int .i64 0, .slice none 0 0] (0, 0) _ rfl (bp_ BK372).out Try.underlying34 rfl (by kernel_rfl)) rfl ?_
    exact ⟨_, es_, by first | exact Kd.R_nil _ _ _ _ _ | exact Kd.N_nil _ _ _ _ _ | exact Kd.V_nil _ _ _ _ _ | exact Kd.Q_nil _ _ _ _ _ | exact Kd.S_nil _ _ _ _ _, (bw_ HB).out⟩
   replace H := oc_ H
   obtain ⟨⟨t376, t377⟩, A50, H⟩ := H
   replace H := ib_ H
   rcases H with ⟨rfl, H⟩ | ⟨rfl, H⟩
   ·replace H := oc_ H
    obtain ⟨t378, A52, H⟩ := H
    replace H := oc_ H
    obtain ⟨t381, A53, H⟩ := H
    by_cases c54 : t381.length < 4398046511104
    ·rw [if_pos c54] at H
     have LMc54 := Aside0.mk c54
     clear c54
     obtain ⟨y384, hy384⟩ : ∃ y_ : List (S72), y_ = (t381 ++ [(⟨(⟨a2_0, a2_1, a2_2⟩ : S31), t376⟩ : S72)]) := ⟨_, rfl⟩
     replace H : ((impl_sorted.f kj5 a0 a1_0 a1_1 a1_2 y384).bind fun bt387 => (some (bt387.1, bt387.2.1, bt387.2.2.1, bt387.2.2.2, 0))) = some (r1, r2, r3, r4, r5) := by first | (rw [hy384]; with_reducible exact H) | (have H2_ := (Option.bind_some _ _).symm.trans H; rw [hy384]; with_reducible exact H2_) | (have H2_ := (Option.bind_some _ _).symm.trans H; with_reducible exact H2_) | with_reducible exact H | (rw [hy384]; exact H) | exact H
     have Ny384 := Aside0.mk hy384
     clear hy384
     replace H := oc_ H
     obtain ⟨⟨t387, t388, t389, t390⟩, A55, H⟩ := H
     simp only [Option.some.injEq, Prod.mk.injEq] at H
     obtain ⟨rfl, rfl, rfl, rfl, rfl⟩ := H
     have hnb56 := NB369_370.out
     have hnc56 := NB370_369.out
     have hnb57 := NB369_371.out
     have hnc57 := NB371_369.out
     have hnb58 := NB369_372.out
     have hnc58 := NB372_369.out
     obtain ⟨hcz59_0, hfz59_0⟩ := ch1_ BK369
     have hnb60 := NB370_371.out
     have hnc60 := NB371_370.out
     have hnb61 := NB370_372.out
     have hnc61 := NB372_370.out
     obtain ⟨hcz62_0, hcz62_1, hcz62_2, hcz62_3, hfz62_0, hfz62_1, hfz62_2, hfz62_3⟩ := ch4_ BK370
     have hnb63 := NB371_372.out
     have hnc63 := NB372_371.out
     obtain ⟨hcz64_0, hcz64_1, hcz64_2, hfz64_0, hfz64_1, hfz64_2⟩ := ch3_ BK371
     try go_wp2_with (first | ((refine gc_ 47 ?_); refine ge_ 35 Try.func47 #[.int .i64 a0, .agg #[.int .i64 a1_0, .int .i64 a1_1, .int .i64 a1_2, .slice A1_3 l1_3.length c1_3], .agg #[.int .i64 a2_0, .int .i64 a2_1, .int .i64 a2_2]] ?_; (with_reducible refine (impl_total.calls kj5 a0 a1_0 a1_1 a1_2 _ _ l1_3 a2_0 a2_1 a2_2 t376 true _ ?side1 ?side2 A50.out).mono ?_); (case side1 => exact ca_ (Kd.C_below HR1_3.out HB.out)); (case side2 => exact HC1_3.out); rintro e w65 ⟨rfl, hb⟩; refine ⟨_, rfl, ?_⟩; replace BK369 := bb_ BK369 hb; replace BK370 := bb_ BK370 hb; replace BK371 := bb_ BK371 hb; replace BK372 := bb_ BK372 hb; replace HB := bt_ HB hb; (try clear hb); obtain ⟨hcz66_0, hcz66_1, hcz66_2, hcz66_3, hfz66_0, hfz66_1, hfz66_2, hfz66_3⟩ := ch4_ BK370) | ((refine gc_ 49 ?_); refine ge_ 43 Try.func49 #[.slice A1_3 l1_3.length c1_3] ?_; (with_reducible refine (slices_Clone_impl_Piece.calls _ _ l1_3 t378 _ ?side1 ?side2 A52.out).mono ?_); (case side1 => exact ca_ (Kd.C_below HR1_3.out HB.out)); (case side2 => exact HC1_3.out); rintro e w67 ⟨v379, rfl, ho0, hb⟩; refine ⟨_, rfl, ?_⟩; have HO380 := Aside0.mk (Kd.R_lower ho0 (below_size (bw_ HB).out)); replace BK369 := bb_ BK369 hb; replace BK370 := bb_ BK370 hb; replace BK371 := bb_ BK371 hb; replace BK372 := bb_ BK372 hb; replace HB := bt_ HB hb; (try clear hb); (try clear ho0); obtain ⟨Ao68, co68, eo68⟩ := Kd.R_slice HO380.out; subst eo68) | ((refine gc_ 48 ?_); refine ge_ 45 Try.func48 #[.slice Ao68 t378.length co68, .func (.func 50) #[] #[.pointer (some ⟨gb369, 0, none⟩), .pointer (some ⟨gb371, 0, none⟩)]] ?_; (with_reducible refine (impl_CoarsenAt_del.calls kj5 (fun k_ => some k_ = (.slice Ao68 t378.length co68 : Value).ownBlock) (.slice Ao68 t378.length co68) t378 a0 a2_0 a2_1 a2_2 t381 w _ gb369 gb371 ?sb0 ?sb1 ?side1 ?side2 A53.out).mono ?_); (case sb0 => exact (bp_ BK369).out); (case sb1 => exact (bp_ BK371).out); (case side1 => repeat (first | (with_reducible first | exact HB.out | apply below_alloc | apply pw_below_drewN | apply below_drew1 | refine below_set ?_ GW369.out | refine below_set ?_ GW370.out | refine below_set ?_ GW371.out | refine below_set ?_ GW372.out) | exact HB.out)); (case side2 => exact Kd.R_tight rfl HO380.out); rintro e w69 ⟨v382, rfl, ho0, hb, hkp⟩; refine ⟨_, rfl, ?_⟩; have n0_ := Aside0.mk (blk_kept (bl_ BK369).out hkp (fun hs_ => (fun e_ => (Kd.R_ne HO380.out BK369.out (by decide)) e_) hs_)); have n1_ := Aside0.mk (blk_kept (bl_ BK370).out hkp (fun hs_ => (fun e_ => (Kd.R_ne HO380.out BK370.out (by decide)) e_) hs_)); have n2_ := Aside0.mk (blk_kept (bl_ BK371).out hkp (fun hs_ => (fun e_ => (Kd.R_ne HO380.out BK371.out (by decide)) e_) hs_)); have n3_ := Aside0.mk (blk_kept (bl_ BK372).out hkp (fun hs_ => (fun e_ => (Kd.R_ne HO380.out BK372.out (by decide)) e_) hs_)); have n4_ := Aside0.mk (Kd.R_mono (ok' := fun k_ => True) ho0 (fun k_ hk_ => trivial)); have n5_ := Aside0.mk (hb); clear BK369; clear BK370; clear BK371; clear BK372; clear HB; clear HO380; have BK369 := n0_; have BK370 := n1_; have BK371 := n2_; have BK372 := n3_; have HO383 := n4_; have HB := n5_; clear n0_ n1_ n2_ n3_ n4_ n5_; (try clear hb); (try clear hkp); (try clear ho0)))
     replace HO383 := Aside0.mk (Kd.R_drew HO383.out)
     replace BK369 := bd_ BK369
     replace BK370 := bd_ BK370
     replace BK371 := bd_ BK371
     replace BK372 := bd_ BK372
     replace HB := be_ HB
     refine start_ (n := 12) (S := fun w' => w'.cell? ⟨gb369, 0, none⟩ = some (.int .i64 a0) ∧ w'.cell? ⟨gb370, 0, none⟩ = some (.int .i64 a1_0) ∧ w'.cell? ⟨gb370, 1, none⟩ = some (.int .i64 a1_1) ∧ w'.cell? ⟨gb370, 2, none⟩ = some (.int .i64 a1_2) ∧ w'.cell? ⟨gb370, 3, none⟩ = some (.slice A1_3 l1_3.length c1_3) ∧ w'.cell? ⟨gb371, 0, none⟩ = some (.int .i64 a2_0) ∧ w'.cell? ⟨gb371, 1, none⟩ = some (.int .i64 a2_1) ∧ w'.cell? ⟨gb371, 2, none⟩ = some (.int .i64 a2_2)) (ds := []) (bv_ 12 0) (by kernel_rfl) rfl rfl ⟨cz_ BK369 0, cz_ BK370 0, cz_ BK370 1, cz_ BK370 2, cz_ BK370 3, cz_ BK371 0, cz_ BK371 1, cz_ BK371 2⟩ (fun hHeld => ?_); refine with_tabW impl_CoarsenAt.tab10 impl_CoarsenAt.bits10 (fun HT_ HW_ => ?_)
     generalize w69.drew = w70 at HO383 BK369 BK370 BK371 BK372 HB hHeld ⊢
     refine px_ HT_ 1 47 2 ?_
     refine px_ HT_ 3 49 10 ?_
     refine px_ HT_ 5 51 42 ?_
     refine ta_ HT_ HW_ 0 (some 46) (bv_ 12 43) hHeld ?_ (hy := by rintro w' ⟨s0, s1, s2, s3, s4, s5, s6, s7⟩; go_simp; with_reducible rfl)
     refine ta_ HT_ HW_ 2 (some 48) (bv_ 12 47) hHeld ?_ (hy := by rintro w' ⟨s0, s1, s2, s3, s4, s5, s6, s7⟩; go_simp; with_reducible rfl)
     refine ta_ HT_ HW_ 4 (some 50) (bv_ 12 63) hHeld ?_ (hy := by rintro w' ⟨s0, s1, s2, s3, s4, s5, s6, s7⟩; go_simp; with_reducible rfl)
     refine px_ HT_ 6 52 127 ?_
     refine on_ HT_ 7 (some 53) (bv_ 12 255) (fun K hK => ?_)
     refine value_ (w1 := ?_) (v := ?_) (by rfl) rfl ?_ ?_
     rotate_left 2
     ·go_simp
      constructor
      ·rfl
      rfl
     refine hK.out _ _ ⟨(blk_cell (blk_alloc BK369.out _) 0).trans rfl, (blk_cell (blk_alloc BK370.out _) 0).trans rfl, (blk_cell (blk_alloc BK370.out _) 1).trans rfl, (blk_cell (blk_alloc BK370.out _) 2).trans rfl, (blk_cell (blk_alloc BK370.out _) 3).trans rfl, (blk_cell (blk_alloc BK371.out _) 0).trans rfl, (blk_cell (blk_alloc BK371.out _) 1).trans rfl, (blk_cell (blk_alloc BK371.out _) 2).trans rfl⟩ (fun hHeld => ?_)
     clear hK K
     refine nm_ (some 53) ?_
     refine on_ HT_ 8 (some 54) (bv_ 12 511) (fun K hK => ?_)
     refine Kd.R_append_step k72 (w0 := w) w.heap.size (by rfl) (.tmp 49) (.tmp 53) 32 72 (.agg #[(.int .i64 0), (.int .i64 0), (.int .i64 0), (.int .i64 0)]) 32 rfl Try.underlying32 info72 rfl (by decide) (by omega) v382 t381 (⟨(⟨a2_0, a2_1, a2_2⟩ : S31), t376⟩ : S72) [.int .i64 a2_0, .int .i64 a2_1, .int .i64 a2_2, .int .i64 t376] (fun _ => True) (fun _ => False) rfl rfl ?aP (fun _ hk => hk.elim) ?aF ?aO ?aB ?aS ?aL ?_
     (case aP => exact k72_mkM _ _ _ (⟨(⟨a2_0, a2_1, a2_2⟩ : S31), t376⟩ : S72))
     (case aB => exact (bw_ HB).out)
     (case aF => exact (fun _ _ => trivial))
     (case aO => exact (ra_ HO383.out))
     (case aS => exact (below_size (bw_ HB).out))
     (case aL => have := LMc54.out; omega)
     intro v385 w71 ho hb hg hat
     rw [← Ny384.out] at ho
     have n0_ := Aside0.mk (blk_grown (g := gb369) (o := .cells #[.int .i64 a0] 2 (0, 0)) (bl_ BK369).out hg (Kd.R_ne HO383.out BK369.out (by decide)))
     have n1_ := Aside0.mk (blk_grown (g := gb370) (o := .cells #[.int .i64 a1_0, .int .i64 a1_1, .int .i64 a1_2, .slice A1_3 l1_3.length c1_3] 34 (0, 0)) (bl_ BK370).out hg (Kd.R_ne HO383.out BK370.out (by decide)))
     have n2_ := Aside0.mk (blk_grown (g := gb371) (o := .cells #[.int .i64 a2_0, .int .i64 a2_1, .int .i64 a2_2] 31 (0, 0)) (bl_ BK371).out hg (Kd.R_ne HO383.out BK371.out (by decide)))
     have n3_ := Aside0.mk (blk_grown (g := gb372) (o := .cells #[.int .i64 0, .int .i64 0, .int .i64 0, .slice none 0 0] 34 (0, 0)) (bl_ BK372).out hg (Kd.R_ne HO383.out BK372.out (by decide)))
     have n4_ := Aside0.mk (hb)
     have n5_ := Aside0.mk (ho)
     clear BK369
     clear BK370
     clear BK371
     clear BK372
     clear HB
     clear HO383
     have BK369 := n0_
     have BK370 := n1_
     have BK371 := n2_
     have BK372 := n3_
     have HB := n4_
     have HO386 := n5_
     clear n0_ n1_ n2_ n3_ n4_ n5_
     clear ho hb hg hat
     obtain ⟨Ao72, co72, eo72⟩ := Kd.R_slice HO386.out
     (first | subst eo72 | (injection eo72 with f1_ f2_ f3_; have f4_ := f1_.symm; have f5_ := f3_.symm; clear f1_ f2_ f3_; subst f4_; subst f5_))
     refine hK.out _ _ ⟨cz_ BK369 0, cz_ BK370 0, cz_ BK370 1, cz_ BK370 2, cz_ BK370 3, cz_ BK371 0, cz_ BK371 1, cz_ BK371 2⟩ (fun hHeld => ?_)
     clear hK K
     refine nm_ (some 54) ?_
     refine on_ HT_ 9 (some 55) (bv_ 12 1023) (fun K hK => ?_)
     refine gs_ Try.func52 #[.int .i64 a0, .agg #[.int .i64 a1_0, .int .i64 a1_1, .int .i64 a1_2], .slice Ao72 y384.length co72] ?_
     with_reducible refine (impl_sorted.calls kj5 a0 a1_0 a1_1 a1_2 (fun k_ => some k_ = (.slice Ao72 y384.length co72 : Value).ownBlock) (.slice Ao72 y384.length co72) y384 t387 t388 t389 t390 w _ ?side1 ?side2 A55.out).mono ?_
     (case side1 => repeat (first | (with_reducible first | exact HB.out | apply below_alloc | apply pw_below_drewN | apply below_drew1 | refine below_set ?_ GW369.out | refine below_set ?_ GW370.out | refine below_set ?_ GW371.out | refine below_set ?_ GW372.out) | exact HB.out))
     (case side2 => exact Kd.R_tight rfl HO386.out)
     rintro e w73 ⟨v391, rfl, ho0, hb, hkp⟩
     refine ⟨_, rfl, ?_⟩
     have n0_ := Aside0.mk (blk_kept (bl_ BK369).out hkp (fun hs_ => (fun e_ => (Kd.R_ne HO386.out BK369.out (by decide)) e_) hs_))
     have n1_ := Aside0.mk (blk_kept (bl_ BK370).out hkp (fun hs_ => (fun e_ => (Kd.R_ne HO386.out BK370.out (by decide)) e_) hs_))
     have n2_ := Aside0.mk (blk_kept (bl_ BK371).out hkp (fun hs_ => (fun e_ => (Kd.R_ne HO386.out BK371.out (by decide)) e_) hs_))
     have n3_ := Aside0.mk (blk_kept (bl_ BK372).out hkp (fun hs_ => (fun e_ => (Kd.R_ne HO386.out BK372.out (by decide)) e_) hs_))
     have n4_ := Aside0.mk (Kd.R_mono (ok' := fun k_ => True) ho0 (fun k_ hk_ => trivial))
     have n5_ := Aside0.mk (hb)
     clear BK369
     clear BK370
     clear BK371
     clear BK372
     clear HB
     clear HO386
     have BK369 := n0_
     have BK370 := n1_
     have BK371 := n2_
     have BK372 := n3_
     have HO392 := n4_
     have HB := n5_
     clear n0_ n1_ n2_ n3_ n4_ n5_
     (try clear hb)
     (try clear hkp)
     (try clear ho0)
     obtain ⟨Ao77, co77, eo77⟩ := Kd.R_slice HO392.out
     (first | subst eo77 | (injection eo77 with f1_ f2_ f3_; have f4_ := f1_.symm; have f5_ := f3_.symm; clear f1_ f2_ f3_; subst f4_; subst f5_))
     refine hK.out _ _ ⟨cz_ BK369 0, cz_ BK370 0, cz_ BK370 1, cz_ BK370 2, cz_ BK370 3, cz_ BK371 0, cz_ BK371 1, cz_ BK371 2⟩ (fun hHeld => ?_)
     clear hK K
     refine nm_ (some 55) ?_
     refine on_ HT_ 10 none (bv_ 12 2047) (fun K hK => ?_)
     have hs74 : w73.cell? ⟨gb372, 0, none⟩ = some (.int .i64 0) := (blk_cell BK372.out 0).trans rfl
     have hfs74 := blk_frozen BK372.out 0
     have hns74_0 := NB369_372.out
     have hns74_1 := NB370_372.out
     have hns74_2 := NB371_372.out
     have hms74_0 := NB372_369.out
     have hms74_1 := NB372_370.out
     have hms74_2 := NB372_371.out
     have hs75 : w73.cell? ⟨gb372, 1, none⟩ = some (.int .i64 0) := (blk_cell BK372.out 1).trans rfl
     have hfs75 := blk_frozen BK372.out 1
     have hns75_0 := NB369_372.out
     have hns75_1 := NB370_372.out
     have hns75_2 := NB371_372.out
     have hms75_0 := NB372_369.out
     have hms75_1 := NB372_370.out
     have hms75_2 := NB372_371.out
     have hs76 : w73.cell? ⟨gb372, 2, none⟩ = some (.int .i64 0) := (blk_cell BK372.out 2).trans rfl
     have hfs76 := blk_frozen BK372.out 2
     have hns76_0 := NB369_372.out
     have hns76_1 := NB370_372.out
     have hns76_2 := NB371_372.out
     have hms76_0 := NB372_369.out
     have hms76_1 := NB372_370.out
     have hms76_2 := NB372_371.out
     have hs78 : w73.cell? ⟨gb372, 3, none⟩ = some (.slice none 0 0) := (blk_cell BK372.out 3).trans rfl
     have hfs78 := blk_frozen BK372.out 3
     have hns78_0 := NB369_372.out
     have hns78_1 := NB370_372.out
     have hns78_2 := NB371_372.out
     have hms78_0 := NB372_369.out
     have hms78_1 := NB372_370.out
     have hms78_2 := NB372_371.out
     refine skip_ (w1 := ?_) (by rfl) rfl ?_ ?_
     rotate_left
     ·go_simp
      rfl
     refine hK.out _ _ ⟨(cg_ NB369_372 ((cg_ NB369_372 ((cg_ NB369_372 ((cg_ NB369_372 (hHeld.1)))))))), (cg_ NB370_372 ((cg_ NB370_372 ((cg_ NB370_372 ((cg_ NB370_372 (hHeld.2.1)))))))), (cg_ NB370_372 ((cg_ NB370_372 ((cg_ NB370_372 ((cg_ NB370_372 (hHeld.2.2.1)))))))), (cg_ NB370_372 ((cg_ NB370_372 ((cg_ NB370_372 ((cg_ NB370_372 (hHeld.2.2.2.1)))))))), (cg_ NB370_372 ((cg_ NB370_372 ((cg_ NB370_372 ((cg_ NB370_372 (hHeld.2.2.2.2.1)))))))), (cg_ NB371_372 ((cg_ NB371_372 ((cg_ NB371_372 ((cg_ NB371_372 (hHeld.2.2.2.2.2.1)))))))), (cg_ NB371_372 ((cg_ NB371_372 ((cg_ NB371_372 ((cg_ NB371_372 (hHeld.2.2.2.2.2.2.1)))))))), (cg_ NB371_372 ((cg_ NB371_372 ((cg_ NB371_372 ((cg_ NB371_372 (hHeld.2.2.2.2.2.2.2))))))))⟩ (fun hHeld => ?_)
     clear hK K
     refine px_ HT_ 11 7 4095 ?_
     refine done_ (done_of HT_.out (by kernel_rfl)) ?_
     try go_wp2
     refine bodyPost_ret (results_ct rfl _ _ gb372 34 #[.int .i64 t387, .int .i64 t388, .int .i64 t389, .slice Ao77 t390.length co77] (0, 0) _ rfl (bp_ BK372).out Try.underlying34 rfl (by kernel_rfl)) rfl ?_
     exact ⟨_, es_, by (with_reducible repeat (first | apply Kd.R_alloc | apply Kd.R_drewN | apply Kd.R_drew)); exact Kd.R_mono (Kd.R_far (p := ⟨gb372, 3, none⟩) (Kd.R_far (p := ⟨gb372, 2, none⟩) (Kd.R_far (p := ⟨gb372, 1, none⟩) (Kd.R_far (p := ⟨gb372, 0, none⟩) (Kd.R_types HO392.out BK372.out (by decide)) (fun _ hk => hk.2) (.int .i64 t387)) (fun _ hk => hk.2) (.int .i64 t388)) (fun _ hk => hk.2) (.int .i64 t389)) (fun _ hk => hk.2) (.slice Ao77 t390.length co77)) (fun _ hk => trivial), (bw_ HB).out⟩
    rw [if_neg c54] at H
    exact absurd H (by simp)
   simp only [Option.some.injEq, Prod.mk.injEq] at H
   obtain ⟨rfl, rfl, rfl, rfl, rfl⟩ := H
   have hnb79 := NB369_370.out
   have hnc79 := NB370_369.out
   have hnb80 := NB369_371.out
   have hnc80 := NB371_369.out
   have hnb81 := NB369_372.out
   have hnc81 := NB372_369.out
   obtain ⟨hcz82_0, hfz82_0⟩ := ch1_ BK369
   have hnb83 := NB370_371.out
   have hnc83 := NB371_370.out
   have hnb84 := NB370_372.out
   have hnc84 := NB372_370.out
   obtain ⟨hcz85_0, hcz85_1, hcz85_2, hcz85_3, hfz85_0, hfz85_1, hfz85_2, hfz85_3⟩ := ch4_ BK370
   have hnb86 := NB371_372.out
   have hnc86 := NB372_371.out
   obtain ⟨hcz87_0, hcz87_1, hcz87_2, hfz87_0, hfz87_1, hfz87_2⟩ := ch3_ BK371
   go_wp2_with (first | ((refine gc_ 47 ?_); refine ge_ 35 Try.func47 #[.int .i64 a0, .agg #[.int .i64 a1_0, .int .i64 a1_1, .int .i64 a1_2, .slice A1_3 l1_3.length c1_3], .agg #[.int .i64 a2_0, .int .i64 a2_1, .int .i64 a2_2]] ?_; (with_reducible refine (impl_total.calls kj5 a0 a1_0 a1_1 a1_2 _ _ l1_3 a2_0 a2_1 a2_2 t376 false _ ?side1 ?side2 A50.out).mono ?_); (case side1 => exact ca_ (Kd.C_below HR1_3.out HB.out)); (case side2 => exact HC1_3.out); rintro e w88 ⟨rfl, hb⟩; refine ⟨_, rfl, ?_⟩; replace BK369 := bb_ BK369 hb; replace BK370 := bb_ BK370 hb; replace BK371 := bb_ BK371 hb; replace BK372 := bb_ BK372 hb; replace HB := bt_ HB hb; (try clear hb); obtain ⟨hcz89_0, hcz89_1, hcz89_2, hcz89_3, hfz89_0, hfz89_1, hfz89_2, hfz89_3⟩ := ch4_ BK372))
   refine bodyPost_ret (results_ct rfl _ _ gb372 34 #[.int .i64 0, .int .i64 0, .int .i64 0, .slice none 0 0] (0, 0) _ rfl (bp_ BK372).out Try.underlying34 rfl (by kernel_rfl)) rfl ?_
   exact ⟨_, es_, by first | exact Kd.R_nil _ _ _ _ _ | exact Kd.N_nil _ _ _ _ _ | exact Kd.V_nil _ _ _ _ _ | exact Kd.Q_nil _ _ _ _ _ | exact Kd.S_nil _ _ _ _ _, (bw_ HB).out⟩
 simp only [Option.some.injEq, Prod.mk.injEq] at H
 obtain ⟨rfl, rfl, rfl, rfl, rfl⟩ := H
 go_enter Try.func18, Try.ntmps18
 go_wp2_with (first | ((refine gd_ 3 ?_); refine by_ 3 #[.int .i64 a0] 2 HB ?_; intro gb369 hg w90 BK369 hb GW369 HB_; replace HB := HB_; clear hb hg) | ((refine gd_ 4 ?_); refine by_ 4 #[.int .i64 a1_0, .int .i64 a1_1, .int .i64 a1_2, .slice A1_3 l1_3.length c1_3] 34 HB ?_; intro gb370 hg w91 BK370 hb GW370 HB_; have NB369_370 := bm_ BK369 hg; have NB370_369 := bn_ BK369 hg; replace BK369 := bb_ BK369 hb; replace HB := HB_; clear hb hg) | ((refine gd_ 5 ?_); refine by_ 5 #[.int .i64 a2_0, .int .i64 a2_1, .int .i64 a2_2] 31 HB ?_; intro gb371 hg w92 BK371 hb GW371 HB_; have NB369_371 := bm_ BK369 hg; have NB371_369 := bn_ BK369 hg; have NB370_371 := bm_ BK370 hg; have NB371_370 := bn_ BK370 hg; replace BK369 := bb_ BK369 hb; replace BK370 := bb_ BK370 hb; replace HB := HB_; clear hb hg) | ((refine gd_ 6 ?_); refine by_ 6 #[.int .i64 0, .int .i64 0, .int .i64 0, .slice none 0 0] 34 HB ?_; intro gb372 hg w93 BK372 hb GW372 HB_; have NB369_372 := bm_ BK369 hg; have NB372_369 := bn_ BK369 hg; have NB370_372 := bm_ BK370 hg; have NB372_370 := bn_ BK370 hg; have NB371_372 := bm_ BK371 hg; have NB372_371 := bn_ BK371 hg; replace BK369 := bb_ BK369 hb; replace BK370 := bb_ BK370 hb; replace BK371 := bb_ BK371 hb; replace HB := HB_; clear hb hg; have hnb94 := NB369_370.out; have hnc94 := NB370_369.out; have hnb95 := NB369_371.out; have hnc95 := NB371_369.out; have hnb96 := NB369_372.out; have hnc96 := NB372_369.out; obtain ⟨hcz97_0, hfz97_0⟩ := ch1_ BK369; have hnb98 := NB370_371.out; have hnc98 := NB371_370.out; have hnb99 := NB370_372.out; have hnc99 := NB372_370.out; obtain ⟨hcz100_0, hcz100_1, hcz100_2, hcz100_3, hfz100_0, hfz100_1, hfz100_2, hfz100_3⟩ := ch4_ BK370; have hnb101 := NB371_372.out; have hnc101 := NB372_371.out; obtain ⟨hcz102_0, hcz102_1, hcz102_2, hfz102_0, hfz102_1, hfz102_2⟩ := ch3_ BK371) | ((refine gc_ 44 ?_); refine ge_ 15 Try.func44 #[.int .i64 a0, .agg #[.int .i64 a1_0, .int .i64 a1_1, .int .i64 a1_2, .slice A1_3 l1_3.length c1_3], .agg #[.int .i64 a2_0, .int .i64 a2_1, .int .i64 a2_2]] ?_; (with_reducible refine (impl_measureCode.calls k a0 a1_0 a1_1 a1_2 _ _ l1_3 a2_0 a2_1 a2_2 t373 _ ?side1 ?side2 A4.out).mono ?_); (case side1 => exact ca_ (Kd.C_below HR1_3.out HB.out)); (case side2 => exact HC1_3.out); rintro e w103 ⟨rfl, hb⟩; refine ⟨_, rfl, ?_⟩; replace BK369 := bb_ BK369 hb; replace BK370 := bb_ BK370 hb; replace BK371 := bb_ BK371 hb; replace BK372 := bb_ BK372 hb; replace HB := bt_ HB hb; (try clear hb); obtain ⟨hcz104_0, hcz104_1, hcz104_2, hcz104_3, hfz104_0, hfz104_1, hfz104_2, hfz104_3⟩ := ch4_ BK372))
 refine bodyPost_ret (results_ct rfl _ _ gb372 34 #[.int .i64 0, .int .i64 0, .int .i64 0, .slice none 0 0] (0, 0) _ rfl (bp_ BK372).out Try.underlying34 rfl (by kernel_rfl)) rfl ?_
 exact ⟨_, es_, by first | exact Kd.R_nil _ _ _ _ _ | exact Kd.N_nil _ _ _ _ _ | exact Kd.V_nil _ _ _ _ _ | exact Kd.Q_nil _ _ _ _ _ | exact Kd.S_nil _ _ _ _ _, (bw_ HB).out⟩
end Go.Proofs.Ytdfcoebadjhjlaa.QG
