import Derived.Test.YtdfcoebadjhjlaaQIx5
import Derived.Test.YtdfcoebadjhjlaaQIx44
import Derived.Test.YtdfcoebadjhjlaaQIx51
import Derived.Test.YtdfcoebadjhjlaaQIx54
import Derived.Test.YtdfcoebadjhjlaaQIx75
import Derived.Ground.SlgfProg
import Derived.Shelf.SlGeneric
import Derived.Shelf.SlicesQ.IndexFunc
namespace Go.Proofs.Ytdfcoebadjhjlaa.QI
set_option maxHeartbeats 400000000
set_option maxRecDepth 100000
open Go.RowKit Go.Proofs.YtdfcoebadjhjlaaW.PrintWords Go.Proofs.YtdfcoebadjhjlaaW.PrintLast Go.Proofs.YtdfcoebadjhjlaaW.PrintMore
attribute [local go_sem] isSome_setCell max2_int min2_int max_two min_two max_three min_three max_four min_four
set_option linter.unusedVariables false
set_option linter.unusedSimpArgs false

/-! ### impl_MeasureOfFlow_over: function 65 -/
def over64_ren : Go.Shelf.Ren := ⟨fun | 8 => 64 | 6 => 91 | n => n, fun | 22 => 28 | 23 => 63 | 25 => 96 | 4 => 4 | 3 => 3 | 0 => 0 | n => n, fun | n => n⟩
theorem over64 : Go.Proofs.SlLaysH0.n8 Try.prog over64_ren := {
  mixed := by kernel_rfl
  f6 := ⟨Try.f91.name, by decide, Try.func91.trans (congrArg some (by kernel_rfl))⟩
  f8 := ⟨Try.f64.name, by decide, Try.func64.trans (congrArg some (by kernel_rfl))⟩
  t0 := Try.underlying0
  a0 := Try.isAgg0
  z0 := Try.sizeOf0
  v0 := Try.zeroValue0
  t3 := Try.underlying3
  a3 := Try.isAgg3
  z3 := Try.sizeOf3
  v3 := Try.zeroValue3
  t4 := Try.underlying4
  a4 := Try.isAgg4
  z4 := Try.sizeOf4
  v4 := Try.zeroValue4
  t22 := Try.underlying28
  a22 := Try.isAgg28
  z22 := Try.sizeOf28
  v22 := Try.zeroValue28
  t25 := Try.underlying96
  a25 := Try.isAgg96
  z25 := Try.sizeOf96
  v25 := Try.zeroValue96 }
theorem impl_MeasureOfFlow_over.one (k : Nat) (a0 b0 b1 b2 : Int) (x : S63) (t : Bool) (ht : impl_holds.f k a0 b0 b1 b2 x.f0.f0 x.f0.f1 x.f0.f2 = some t) (Bb Bp : Nat) (w : World) (h0 : w.cell? ⟨Bb, 0, none⟩ = some (.int .i64 b0)) (h1 : w.cell? ⟨Bb, 1, none⟩ = some (.int .i64 b1)) (h2 : w.cell? ⟨Bb, 2, none⟩ = some (.int .i64 b2)) (hp : w.cell? ⟨Bp, 0, none⟩ = some (.int .i64 a0)) (hb : Bb < w.heap.size) (hq : Bp < w.heap.size) :
  Calls Try.prog 65 #[.agg #[.int .i64 x.f0.f0, .int .i64 x.f0.f1, .int .i64 x.f0.f2, .int .i64 x.f1], .pointer (some ⟨Bb, 0, none⟩), .pointer (some ⟨Bp, 0, none⟩)] w fun e w' => e = .returned (.bool (!(x.f0.f0 == b0 && (x.f0.f1 == b1 && (x.f0.f2 == b2))) && t)) ∧ Below w.heap.size w w' := by
 have hcon := fun W' y0 y1 y2 (e0 : y0 = x.f0.f0) (e1 : y1 = x.f0.f1) (e2 : y2 = x.f0.f2) => impl_holds.calls k a0 b0 b1 b2 y0 y1 y2 t W' (by rw [e0, e1, e2]; exact ht)
 have hne : Bb ≠ w.heap.size := by omega
 have hnp : Bp ≠ w.heap.size := by omega
 go_enter Try.func65, Try.ntmps65
 go_wp2_with (go_at_call 51; with_reducible refine (hcon _ _ _ _ (by first | rfl | (apply Eq.symm; assumption)) (by first | rfl | (apply Eq.symm; assumption)) (by first | rfl | (apply Eq.symm; assumption))).mono ?_; rintro e w' ⟨rfl, hb'⟩)
 all_goals go_ret
 all_goals first | refine ⟨?_, ((Below.refl _ w).alloc (Nat.le_refl _) _).trans (hb'.mono (by simp))⟩ | refine ⟨?_, (Below.refl _ w).alloc (Nat.le_refl _) _⟩
 all_goals first | rfl | (simp [*]; done) | (simp_all; done)
def impl_MeasureOfFlow_over.enc (x : S63) : List Value := [.int .i64 x.f0.f0, .int .i64 x.f0.f1, .int .i64 x.f0.f2, .int .i64 x.f1]
def impl_MeasureOfFlow_over.p (k : Nat) (a1_0 a1_1 a1_2 a2 : Int) (x : S63) : Bool := !(x.f0.f0 == a1_0 && (x.f0.f1 == a1_1 && (x.f0.f2 == a1_2))) && (impl_holds.f k a2 a1_0 a1_1 a1_2 x.f0.f0 x.f0.f1 x.f0.f2).getD false
def impl_MeasureOfFlow_over.f (k : Nat) (l0 : List (S63)) (a1_0 a1_1 a1_2 a1_3 a2 : Int) : Option (Bool) :=
 if 0 < l0.length ∧ (l0.all fun x => (impl_holds.f k a2 a1_0 a1_1 a1_2 x.f0.f0 x.f0.f1 x.f0.f2).isSome) = true then some (l0.any (impl_MeasureOfFlow_over.p k a1_0 a1_1 a1_2 a2)) else none
open Go in
def isK_ : Op → Bool
 | .call _ => true
 | _ => false
open Go in
def isN_ : Op → Bool
 | .alloc _ => true
 | .box _ _ => true
 | _ => false
open Go in
theorem gk_ {P : Program} {ops : Array Oper} {Q : Exit → Act → World → Prop} {rest : List Oper} {o : Oper} {a : Act} {w : World} (h : wpList P ops Q (o :: rest) a w) (ho : isK_ o.op = true := by with_unfolding_all exact rfl) : wpList P ops Q (o :: rest) a w := h
open Go in
theorem gn_ {P : Program} {ops : Array Oper} {Q : Exit → Act → World → Prop} {rest : List Oper} {o : Oper} {a : Act} {w : World} (h : wpList P ops Q (o :: rest) a w) (ho : isN_ o.op = true := by with_unfolding_all exact rfl) : wpList P ops Q (o :: rest) a w := h
theorem impl_MeasureOfFlow_over.calls (k : Nat) (A0 : Option Addr) (c0 : Nat) (l0 : List (S63)) (a1_0 a1_1 a1_2 a1_3 a2 : Int) (r : Bool) (w : World) (Bb Bp : Nat) (hBb : w.heap[Bb]? = some (.cells #[.int .i64 a1_0, .int .i64 a1_1, .int .i64 a1_2, .int .i64 a1_3] 63 (0, 0))) (hBp : w.heap[Bp]? = some (.cells #[.int .i64 a2] 2 (0, 0))) (hr0 : Kd.C k63 w A0 l0.length l0) (hc0 : l0.length ≤ c0) (h : impl_MeasureOfFlow_over.f k l0 a1_0 a1_1 a1_2 a1_3 a2 = some r) :
  Calls Try.prog 64 #[.slice A0 l0.length c0, .func (.func 65) #[] #[.pointer (some ⟨Bb, 0, none⟩), .pointer (some ⟨Bp, 0, none⟩)]] w fun e w' => e = .returned (.bool r) ∧ Below w.heap.size w w' := by
 unfold impl_MeasureOfFlow_over.f at h
 have hl : 0 < l0.length ∧ (l0.all fun x => (impl_holds.f k a2 a1_0 a1_1 a1_2 x.f0.f0 x.f0.f1 x.f0.f2).isSome) = true := Classical.byContradiction fun hn => by rw [if_neg hn] at h; cases h
 rw [if_pos hl] at h
 obtain rfl : l0.any (impl_MeasureOfFlow_over.p k a1_0 a1_1 a1_2 a2) = r := Option.some.inj h
 clear h
 obtain ⟨hl0, hall⟩ := hl
 rw [List.all_eq_true] at hall
 have hbl : Bb < w.heap.size := (Array.getElem?_eq_some_iff.1 hBb).1
 have hpl : Bp < w.heap.size := (Array.getElem?_eq_some_iff.1 hBp).1
 have hcp : w.cell? ⟨Bp, 0, none⟩ = some (.int .i64 a2) := by unfold World.cell?; rw [hBp]; rfl
 have hc : ∀ i v, (#[.int .i64 a1_0, .int .i64 a1_1, .int .i64 a1_2, .int .i64 a1_3] : Array Value)[i]? = some v → w.cell? ⟨Bb, i, none⟩ = some v := fun i v h => by
  unfold World.cell?
  rw [hBb]
  exact h
 obtain ⟨ad, ca, rfl, hca, hKa, hcc⟩ := Kd.C_get hr0 z63 0 (by omega) (by omega)
 obtain ⟨b, off, sp⟩ := ad
 have hsp : sp = none := by
  cases sp with
  | none => rfl
  | some s_ =>
   obtain rfl := k63_open hKa
   have h1 := hcc 0 _ rfl
   simp only [Int.toNat_zero, Nat.zero_mul, Nat.zero_add, Nat.add_zero, Addr.add, if_true] at h1
   unfold World.cell? at h1
   split at h1 <;> simp at h1
 subst hsp
 clear hcc hKa hca
 have hadd : ∀ j, (⟨b, off, none⟩ : Addr).add j = ⟨b, off + j, none⟩ := fun j => by unfold Addr.add; split <;> simp_all
 have hcells : ∀ (j : Nat), j < l0.length → ∀ i v, (impl_MeasureOfFlow_over.enc (l0.getD j z63))[i]? = some v → w.cell? ⟨b, off + (j * 4 + i), none⟩ = some v := by
  intro j hj i v hi
  obtain ⟨ad', cj, he, hcj, hKj, hccj⟩ := Kd.C_get hr0 z63 (j : Int) (by omega) (by omega)
  injection he with he
  subst he
  obtain rfl := k63_open hKj
  rw [← hadd]
  exact hccj i v hi
 have hbw : b < w.heap.size := by
  have h1 := hcells 0 hl0 0 _ rfl
  unfold World.cell? at h1
  split at h1
  ·rename_i h2; exact (Array.getElem?_eq_some_iff.1 h2).1
  simp at h1
 haveI : Inhabited { x : S63 // (impl_holds.f k a2 a1_0 a1_1 a1_2 x.f0.f0 x.f0.f1 x.f0.f2).isSome = true } := ⟨⟨l0[0], hall _ (List.getElem_mem hl0)⟩⟩
 obtain ⟨zs, hzs⟩ : ∃ zs : List { x : S63 // (impl_holds.f k a2 a1_0 a1_1 a1_2 x.f0.f0 x.f0.f1 x.f0.f2).isSome = true }, zs = l0.pmap Subtype.mk hall := ⟨_, rfl⟩
 have hzl : zs.length = l0.length := by rw [hzs]; exact List.length_pmap
 have hzg : ∀ j, j < l0.length → (zs[j]!).1 = l0.getD j z63 := fun j hj => by
  rw [getElem!_pos zs j (by omega), List.getD_eq_getElem?_getD, List.getElem?_eq_getElem hj]
  simp [hzs]
 have hany : (zs.take l0.length).any (fun x => impl_MeasureOfFlow_over.p k a1_0 a1_1 a1_2 a2 x.1) = l0.any (impl_MeasureOfFlow_over.p k a1_0 a1_1 a1_2 a2) := by
  rw [List.take_of_length_le (by omega), hzs]
  rw [Bool.eq_iff_iff, List.any_eq_true, List.any_eq_true]
  constructor
  ·rintro ⟨x, hx, hpx⟩
   obtain ⟨y, hy, rfl⟩ := List.mem_pmap.1 hx
   exact ⟨y, hy, hpx⟩
  rintro ⟨y, hy, hpy⟩
  exact ⟨⟨y, hall y hy⟩, List.mem_pmap.2 ⟨y, hy, rfl⟩, hpy⟩
 rw [← hany]
 refine AnyQ.slices_ContainsFunc (P := Try.prog) over64 4 Try.isAgg63 Try.sizeOf63 (fun x : { x : S63 // (impl_holds.f k a2 a1_0 a1_1 a1_2 x.f0.f0 x.f0.f1 x.f0.f2).isSome = true } => impl_MeasureOfFlow_over.enc x.1) (fun _ => rfl) (fun x => impl_MeasureOfFlow_over.p k a1_0 a1_1 a1_2 a2 x.1) 65 #[.pointer (some ⟨Bb, 0, none⟩), .pointer (some ⟨Bp, 0, none⟩)] (enters_of Try.func65 (by kernel_rfl) rfl) b off l0.length c0 zs w
  (fun W x hW => ?_) (by omega) (by have := hr0.2.1; omega) hbw (fun j hj i v hi => ?_)
 ·obtain ⟨t, ht⟩ := Option.isSome_iff_exists.1 x.2
  have hp' : impl_MeasureOfFlow_over.p k a1_0 a1_1 a1_2 a2 x.1 = (!(x.1.f0.f0 == a1_0 && (x.1.f0.f1 == a1_1 && (x.1.f0.f2 == a1_2))) && t) := by unfold impl_MeasureOfFlow_over.p; rw [ht]; rfl
  have cell : ∀ (q i : Nat) (v : Value), q < w.heap.size → w.cell? ⟨q, i, none⟩ = some v → W.cell? ⟨q, i, none⟩ = some v := fun q i v hq h => (hW.cell (p := ⟨q, i, none⟩) hq).trans h
  have e : ∀ y : Value, (#[y] ++ #[.pointer (some ⟨Bb, 0, none⟩), .pointer (some ⟨Bp, 0, none⟩)] : Array Value) = #[y, .pointer (some ⟨Bb, 0, none⟩), .pointer (some ⟨Bp, 0, none⟩)] := fun _ => by simp
  have h := impl_MeasureOfFlow_over.one k a2 a1_0 a1_1 a1_2 x.1 t ht Bb Bp W (cell _ _ _ hbl (hc 0 _ rfl)) (cell _ _ _ hbl (hc 1 _ rfl)) (cell _ _ _ hbl (hc 2 _ rfl)) (cell _ _ _ hpl hcp) (by have := hW.size; omega) (by have := hW.size; omega)
  rw [← hp', ← e] at h
  refine h.mono ?_
  rintro e w' ⟨rfl, hb'⟩
  exact ⟨rfl, hW.trans (hb'.mono hW.size)⟩
 rw [hzl] at hj
 have h1 := hcells j hj i v (by rw [← hzg j hj]; exact hi)
 rw [Nat.add_assoc]
 exact h1

/-! ### impl_MeasureOfFlow: function 28 -/
mutual
def impl_MeasureOfFlow.l0 : Nat → List (S63) → List (S63) → Int → Int → Int → Int → Int → Int → Option (Int × Int × Int × (List (S72)) × Int)
 | 0, _, _, _, _, _, _, _, _ => none
 | k + 1, x2, x21, x22, x23, x429000, x430000, x430001, x430002 => if x23 < x22 then (if 0 ≤ x23 then (if x23 < (x21.length : Int) then ((impl_IsBall.f k x429000 ((rd_T63 x21 x23).f0.f0) ((rd_T63 x21 x23).f0.f1) ((rd_T63 x21 x23).f0.f2)).bind fun t434 => (if t434 = true then (impl_MeasureOfFlow.l0 k x2 x21 x22 (wrap64 (x23 + 1)) x429000 x430000 x430001 x430002) else (some (0, 0, 0, ([] : List (S72)), 1)))) else (none)) else (none)) else (if (x2.length : Int) = 0 then (some (0, 0, 0, ([] : List (S72)), 2)) else (if (x2.length : Int) > 768 then (some (0, 0, 0, ([] : List (S72)), 5)) else (impl_MeasureOfFlow.l1 k x2 (([] : List (S72))) x2 (x2.length : Int) 0 x429000 x430000 x430001 x430002)))
def impl_MeasureOfFlow.l1 : Nat → List (S63) → List (S72) → List (S63) → Int → Int → Int → Int → Int → Int → Option (Int × Int × Int × (List (S72)) × Int)
 | 0, _, _, _, _, _, _, _, _, _ => none
 | k + 1, x2, x10, x43, x44, x45, x429000, x430000, x430001, x430002 => if x45 < x44 then (if 0 ≤ x45 then (if x45 < (x43.length : Int) then ((impl_MeasureOfFlow_over.f k x2 ((rd_T63 x43 x45).f0.f0) ((rd_T63 x43 x45).f0.f1) ((rd_T63 x43 x45).f0.f2) ((rd_T63 x43 x45).f1) x429000).bind fun t440 => (if t440 = true then (impl_MeasureOfFlow.l1 k x2 x10 x43 x44 (wrap64 (x45 + 1)) x429000 x430000 x430001 x430002) else (if x10.length < 4398046511104 then (impl_MeasureOfFlow.l1 k x2 (x10 ++ [(⟨(⟨(rd_T63 x43 x45).f0.f0, (rd_T63 x43 x45).f0.f1, (rd_T63 x43 x45).f0.f2⟩ : S31), (rd_T63 x43 x45).f1⟩ : S72)]) x43 x44 (wrap64 (x45 + 1)) x429000 x430000 x430001 x430002) else (none)))) else (none)) else (none)) else ((impl_sorted.f k x429000 x430000 x430001 x430002 x10).bind fun bt444 => ((impl_IsMeasure.f k x429000 bt444.1 bt444.2.1 bt444.2.2.1 bt444.2.2.2).bind fun t451 => (if t451 = true then ((impl_flowOf.f k x429000 bt444.1 bt444.2.1 bt444.2.2.1 bt444.2.2.2).bind fun bt452 => ((slices_Equal_impl_Flow.f k bt452.1 x2).bind fun t456 => (if t456 = true then (if bt452.2 = true then (some (bt444.1, bt444.2.1, bt444.2.2.1, bt444.2.2.2, 0)) else (some (0, 0, 0, ([] : List (S72)), 3))) else (some (0, 0, 0, ([] : List (S72)), 5))))) else (some (0, 0, 0, ([] : List (S72)), 5)))))
end
def impl_MeasureOfFlow.f (k : Nat) (a0 a1_0 a1_1 a1_2 : Int) (l2 : List (S63)) : Option (Int × Int × Int × (List (S72)) × Int) := (impl_IsBall.f k a0 a1_0 a1_1 a1_2).bind fun t431 => (if t431 = true then (impl_MeasureOfFlow.l0 k l2 l2 (l2.length : Int) 0 a0 a1_0 a1_1 a1_2) else (some (0, 0, 0, ([] : List (S72)), 1)))
theorem impl_MeasureOfFlow.calls (k : Nat) (a0 a1_0 a1_1 a1_2 : Int) (A2 : Option Addr) (c2 : Nat) (l2 : List (S63)) (r1 r2 r3 : Int) (r4 : List (S72)) (r5 : Int) (w : World) (hr2 : Kd.C k63 w A2 l2.length l2) (hc2 : l2.length ≤ c2) (h : impl_MeasureOfFlow.f k a0 a1_0 a1_1 a1_2 l2 = some (r1, r2, r3, r4, r5)) :
  Calls Try.prog 28 #[.int .i64 a0, .agg #[.int .i64 a1_0, .int .i64 a1_1, .int .i64 a1_2], .slice A2 l2.length c2] w fun e w' => ∃ v3_ : Value, e = .returned (.tuple #[.agg #[.int .i64 r1, .int .i64 r2, .int .i64 r3, v3_], .int .i64 r5]) ∧ Kd.R k72 72 w' w.heap.size (fun _ => True) v3_ r4 ∧ Below w.heap.size w w' := by
 have hu31 := Try.underlying31
 have hu34 := Try.underlying34
 have hu63 := Try.underlying63
 have hu72 := Try.underlying72
 have HR2 := Aside0.mk hr2
 have HC2 := Aside0.mk hc2
 clear hr2 hc2
 have HB := Aside0.mk (Below.refl w.heap.size w)
 unfold impl_MeasureOfFlow.f at h
 have H := h
 clear h
 replace H := oc_ H
 obtain ⟨t431, A4, H⟩ := H
 replace H := ib_ H
 rcases H with ⟨rfl, H⟩ | ⟨rfl, H⟩
 ·have H' := Aside0.mk H
  clear H
  go_enter Try.func28, Try.ntmps28
  go_wp2_with (first | ((with_reducible refine gd_ 3 ?_); refine by_ 3 #[.int .i64 a0] 2 HB ?_; intro gb428 hg w6 BK428 hb GW428 HB_; replace HB := HB_; clear hb hg) | ((with_reducible refine gd_ 4 ?_); refine by_ 4 #[.int .i64 a1_0, .int .i64 a1_1, .int .i64 a1_2] 31 HB ?_; intro gb429 hg w7 BK429 hb GW429 HB_; have NB428_429 := bm_ BK428 hg; have NB429_428 := bn_ BK428 hg; replace BK428 := bb_ BK428 hb; replace HB := HB_; clear hb hg) | ((with_reducible refine gd_ 6 ?_); refine by_ 6 #[.int .i64 0, .int .i64 0, .int .i64 0, .slice none 0 0] 34 HB ?_; intro gb430 hg w8 BK430 hb GW430 HB_; have NB428_430 := bm_ BK428 hg; have NB430_428 := bn_ BK428 hg; have NB429_430 := bm_ BK429 hg; have NB430_429 := bn_ BK429 hg; replace BK428 := bb_ BK428 hb; replace BK429 := bb_ BK429 hb; replace HB := HB_; clear hb hg; have hnb9 := NB428_429.out; have hnc9 := NB429_428.out; obtain ⟨hcz11_0, hfz11_0⟩ := ch1_ BK428; obtain ⟨hcz13_0, hcz13_1, hcz13_2, hfz13_0, hfz13_1, hfz13_2⟩ := ch3_ BK429) | ((with_reducible refine gc_ 63 ?_); refine ge_ 18 Try.func63 #[.int .i64 a0, .agg #[.int .i64 a1_0, .int .i64 a1_1, .int .i64 a1_2]] ?_; (with_reducible refine (impl_IsBall.calls k a0 a1_0 a1_1 a1_2 true _ A4.out).mono ?_); rintro e w14 ⟨rfl, hb⟩; refine ⟨_, rfl, ?_⟩; replace BK428 := bb_ BK428 hb; replace BK429 := bb_ BK429 hb; replace BK430 := bb_ BK430 hb; replace HB := bt_ HB hb; (try clear hb)))
  go_loopg [23] k (fun kq v23 w' => ∃ (x23_1 : Int) (x431000_1 : Int) (x431001_1 : Int) (x431002_1 : Int), v23 = .int .i64 x23_1 ∧ Aside0 (impl_MeasureOfFlow.l0 kq l2 l2 (l2.length : Int) x23_1 a0 a1_0 a1_1 a1_2 = some (r1, r2, r3, r4, r5)) ∧ Aside0 (kq ≤ k) ∧ Aside0 (w'.heap[gb428]? = some (.cells #[.int .i64 a0] 2 (0, 0))) ∧ Aside0 (w'.heap[gb429]? = some (.cells #[.int .i64 a1_0, .int .i64 a1_1, .int .i64 a1_2] 31 (0, 0))) ∧ Aside0 (w'.heap[gb430]? = some (.cells #[.int .i64 x431000_1, .int .i64 x431001_1, .int .i64 x431002_1, (.slice none 0 0)] 34 (0, 0))) ∧ Aside0 (Below w.heap.size w w'))
  case atStart => exact ⟨(0), (0), (0), (0), en_, H', ⟨Nat.le_refl _⟩, bl_ BK428, bl_ BK429, bl_ BK430, bw_ HB⟩
  clear H'
  try clear c2
  try clear hcz11_0
  try clear hcz13_0 hcz13_1 hcz13_2
  try clear hfz11_0
  try clear hfz13_0 hfz13_1 hfz13_2
  obtain ⟨x23_1, x431000_1, x431001_1, x431002_1, rfl, HA, HK1, BK428, BK429, BK430, HB⟩ := hrel
  cases gk with
  | zero => exact absurd HA.out (by simp [impl_MeasureOfFlow.l0])
  | succ k1 =>
   have H := HA.out
   clear HA
   simp only [impl_MeasureOfFlow.l0] at H
   replace H := il_ H
   rcases H with ⟨c15b0, H⟩ | ⟨c15b0, H⟩
   ·replace H := imn_ H
    obtain ⟨c16b0, H⟩ := H
    replace H := iln_ H
    obtain ⟨c17b0, H⟩ := H
    replace H := oc_ H
    obtain ⟨t434, A18, H⟩ := H
    replace H := ib_ H
    rcases H with ⟨rfl, H⟩ | ⟨rfl, H⟩
    ·have H' := Aside0.mk H
     clear H
     have p432 : 0 ≤ (x23_1 : Int) := od_
     have q432 : x23_1 < (l2.length : Int) := od_
     obtain ⟨ad432, e432, hx432_0, hx432_1, hx432_2, hx432_3⟩ := at_T63 HR2.out x23_1 p432 q432
     cases e432
     replace hx432_0 := clTr HB.out hx432_0
     replace hx432_1 := clTr HB.out hx432_1
     replace hx432_2 := clTr HB.out hx432_2
     replace hx432_3 := clTr HB.out hx432_3
     replace p432 := eq_true p432
     replace q432 := eq_true q432
     go_wp2_with (first | ((with_reducible refine gd_ 9 ?_); refine by_ 9 #[.int .i64 0, .int .i64 0, .int .i64 0, .int .i64 0] 63 HB ?_; intro gb433 hg w20 BK433 hb GW433 HB_; have NB428_433 := bm_ BK428 hg; have NB433_428 := bn_ BK428 hg; have NB429_433 := bm_ BK429 hg; have NB433_429 := bn_ BK429 hg; have NB430_433 := bm_ BK430 hg; have NB433_430 := bn_ BK430 hg; replace BK428 := bb_ BK428 hb; replace BK429 := bb_ BK429 hb; replace BK430 := bb_ BK430 hb; replace HB := HB_; clear hb hg; have hnb21 := NB433_428.out; have hnc21 := NB428_433.out; obtain ⟨hcz24_0, hcz24_1, hcz24_2, hcz24_3, hfz24_0, hfz24_1, hfz24_2, hfz24_3⟩ := ch4_ BK433; obtain ⟨hcz27_0, hfz27_0⟩ := ch1_ BK428) | ((with_reducible refine gc_ 63 ?_); refine ge_ 30 Try.func63 #[.int .i64 a0, .agg #[.int .i64 ((rd_T63 l2 x23_1).f0.f0), .int .i64 ((rd_T63 l2 x23_1).f0.f1), .int .i64 ((rd_T63 l2 x23_1).f0.f2)]] ?_; (with_reducible refine (impl_IsBall.calls k1 a0 ((rd_T63 l2 x23_1).f0.f0) ((rd_T63 l2 x23_1).f0.f1) ((rd_T63 l2 x23_1).f0.f2) true _ A18.out).mono ?_); rintro e w28 ⟨rfl, hb⟩; refine ⟨_, rfl, ?_⟩; replace BK428 := fb_ BK428 NB428_433 hb; replace BK429 := fb_ BK429 NB429_433 hb; replace BK430 := fb_ BK430 NB430_433 hb; replace BK433 := Aside0.mk (blk_below (g := gb433) (o := .cells #[.int .i64 ((rd_T63 l2 x23_1).f0.f0), .int .i64 ((rd_T63 l2 x23_1).f0.f1), .int .i64 ((rd_T63 l2 x23_1).f0.f2), .int .i64 ((rd_T63 l2 x23_1).f1)] 63 (0, 0)) (bp_ BK433).out hb); replace HB := bt_ HB hb; (try clear hb)))
     go_roundg k1
     case measure => have := HK1.out; omega
     case rel => exact ⟨(wrap64 (x23_1 + 1)), (x431000_1), (x431001_1), (x431002_1), en_, H', ⟨by have := HK1.out; omega⟩, bl_ BK428, bl_ BK429, bl_ BK430, bw_ HB⟩
    simp only [Option.some.injEq, Prod.mk.injEq] at H
    obtain ⟨rfl, rfl, rfl, rfl, rfl⟩ := H
    have p432 : 0 ≤ (x23_1 : Int) := od_
    have q432 : x23_1 < (l2.length : Int) := od_
    obtain ⟨ad432, e432, hx432_0, hx432_1, hx432_2, hx432_3⟩ := at_T63 HR2.out x23_1 p432 q432
    cases e432
    replace hx432_0 := clTr HB.out hx432_0
    replace hx432_1 := clTr HB.out hx432_1
    replace hx432_2 := clTr HB.out hx432_2
    replace hx432_3 := clTr HB.out hx432_3
    replace p432 := eq_true p432
    replace q432 := eq_true q432
    go_wp2_with (first | ((with_reducible refine gd_ 9 ?_); refine by_ 9 #[.int .i64 0, .int .i64 0, .int .i64 0, .int .i64 0] 63 HB ?_; intro gb433 hg w29 BK433 hb GW433 HB_; have NB428_433 := bm_ BK428 hg; have NB433_428 := bn_ BK428 hg; have NB429_433 := bm_ BK429 hg; have NB433_429 := bn_ BK429 hg; have NB430_433 := bm_ BK430 hg; have NB433_430 := bn_ BK430 hg; replace BK428 := bb_ BK428 hb; replace BK429 := bb_ BK429 hb; replace BK430 := bb_ BK430 hb; replace HB := HB_; clear hb hg; have hnb30 := NB433_428.out; have hnc30 := NB428_433.out; obtain ⟨hcz33_0, hcz33_1, hcz33_2, hcz33_3, hfz33_0, hfz33_1, hfz33_2, hfz33_3⟩ := ch4_ BK433; obtain ⟨hcz36_0, hfz36_0⟩ := ch1_ BK428) | ((with_reducible refine gc_ 63 ?_); refine ge_ 30 Try.func63 #[.int .i64 a0, .agg #[.int .i64 ((rd_T63 l2 x23_1).f0.f0), .int .i64 ((rd_T63 l2 x23_1).f0.f1), .int .i64 ((rd_T63 l2 x23_1).f0.f2)]] ?_; (with_reducible refine (impl_IsBall.calls k1 a0 ((rd_T63 l2 x23_1).f0.f0) ((rd_T63 l2 x23_1).f0.f1) ((rd_T63 l2 x23_1).f0.f2) false _ A18.out).mono ?_); rintro e w37 ⟨rfl, hb⟩; refine ⟨_, rfl, ?_⟩; replace BK428 := fb_ BK428 NB428_433 hb; replace BK429 := fb_ BK429 NB429_433 hb; replace BK430 := fb_ BK430 NB430_433 hb; replace BK433 := Aside0.mk (blk_below (g := gb433) (o := .cells #[.int .i64 ((rd_T63 l2 x23_1).f0.f0), .int .i64 ((rd_T63 l2 x23_1).f0.f1), .int .i64 ((rd_T63 l2 x23_1).f0.f2), .int .i64 ((rd_T63 l2 x23_1).f1)] 63 (0, 0)) (bp_ BK433).out hb); replace HB := bt_ HB hb; (try clear hb); (try clear hcz33_0 hcz33_1 hcz33_2 hcz33_3 hfz33_0 hfz33_1 hfz33_2 hfz33_3); (try clear hcz36_0 hfz36_0); obtain ⟨hcz39_0, hcz39_1, hcz39_2, hcz39_3, hfz39_0, hfz39_1, hfz39_2, hfz39_3⟩ := ch4_ BK430))
    refine bodyPost_ret (results_ct rfl _ _ gb430 34 #[.int .i64 0, .int .i64 0, .int .i64 0, .slice none 0 0] (0, 0) _ rfl (bp_ BK430).out Try.underlying34 rfl (by kernel_rfl)) rfl ?_
    exact ⟨_, es_, by first | exact Kd.R_nil _ _ _ _ _ | exact Kd.N_nil _ _ _ _ _ | exact Kd.V_nil _ _ _ _ _ | exact Kd.Q_nil _ _ _ _ _ | exact Kd.S_nil _ _ _ _ _, (bw_ HB).out⟩
   replace H := ie_ H
   rcases H with ⟨c40b0, c40b1, H⟩ | ⟨c40, c40b0, c40b1, H⟩
   ·simp only [Option.some.injEq, Prod.mk.injEq] at H
    obtain ⟨rfl, rfl, rfl, rfl, rfl⟩ := H
    obtain ⟨hcz43_0, hcz43_1, hcz43_2, hcz43_3, hfz43_0, hfz43_1, hfz43_2, hfz43_3⟩ := ch4_ BK430
    go_wp2
    refine bodyPost_ret (results_ct rfl _ _ gb430 34 #[.int .i64 0, .int .i64 0, .int .i64 0, .slice none 0 0] (0, 0) _ rfl (bp_ BK430).out Try.underlying34 rfl (by kernel_rfl)) rfl ?_
    exact ⟨_, es_, by first | exact Kd.R_nil _ _ _ _ _ | exact Kd.N_nil _ _ _ _ _ | exact Kd.V_nil _ _ _ _ _ | exact Kd.Q_nil _ _ _ _ _ | exact Kd.S_nil _ _ _ _ _, (bw_ HB).out⟩
   have c40b2 : ¬ (l2 = []) := fun h_ => c40 (by rw [h_]; rfl)
   by_cases c44 : (l2.length : Int) > 768
   ·rw [if_pos c44] at H
    have c44b0 : decide (768 < (l2.length : Int)) = true := decide_eq_true c44
    have c44b1 : decide (768 < l2.length) = true := decide_eq_true (by omega)
    clear c44
    simp only [Option.some.injEq, Prod.mk.injEq] at H
    obtain ⟨rfl, rfl, rfl, rfl, rfl⟩ := H
    obtain ⟨hcz47_0, hcz47_1, hcz47_2, hcz47_3, hfz47_0, hfz47_1, hfz47_2, hfz47_3⟩ := ch4_ BK430
    go_wp2
    refine bodyPost_ret (results_ct rfl _ _ gb430 34 #[.int .i64 0, .int .i64 0, .int .i64 0, .slice none 0 0] (0, 0) _ rfl (bp_ BK430).out Try.underlying34 rfl (by kernel_rfl)) rfl ?_
    exact ⟨_, es_, by first | exact Kd.R_nil _ _ _ _ _ | exact Kd.N_nil _ _ _ _ _ | exact Kd.V_nil _ _ _ _ _ | exact Kd.Q_nil _ _ _ _ _ | exact Kd.S_nil _ _ _ _ _, (bw_ HB).out⟩
   rw [if_neg c44] at H
   have c44b0 : decide (768 < (l2.length : Int)) = false := decide_eq_false c44
   have c44b1 : decide (768 < l2.length) = false := decide_eq_false (by omega)
   clear c44
   obtain ⟨y435, hy435⟩ : ∃ y_ : List (S72), y_ = (([] : List (S72))) := ⟨_, rfl⟩
   replace H : (impl_MeasureOfFlow.l1 k1 l2 y435 l2 (l2.length : Int) 0 a0 a1_0 a1_1 a1_2) = some (r1, r2, r3, r4, r5) := by first | (rw [hy435]; with_reducible exact H) | (have H2_ := (Option.bind_some _ _).symm.trans H; rw [hy435]; with_reducible exact H2_) | (have H2_ := (Option.bind_some _ _).symm.trans H; with_reducible exact H2_) | with_reducible exact H | (rw [hy435]; exact H) | exact H
   have Ny435 := Aside0.mk hy435
   clear hy435
   have H' := Aside0.mk H
   clear H
   go_wp2_with (first | ((with_reducible refine gd_ 42 ?_); refine Kd.R_lit k72 _ 72 ?hg (N := 42) ?hd (xs := ([] : List (S72))) (inner := []) (ok := fun _ => True) (okp := fun _ => True) ?hr ?hp (fun _ hk => hk) trivial (Below.refl _ _) (Nat.le_refl _) (by simp) ?_; (case hd => rfl); (case hg => rfl); (case hr => first | (go_simp; done) | (go_simp; rfl)); (case hp => exact (Reps.none _ _)); intro v436 w48 ho49 hb hg_ hnew_; clear hg_ hnew_; (first | rw [← Ny435.out] at ho49 | (simp only [Int.reduceToNat] at ho49; rw [← Ny435.out] at ho49)); have HO437 := Aside0.mk (Kd.R_lower ho49 (below_size (bw_ HB).out)); replace BK428 := bb_ BK428 hb; replace BK429 := bb_ BK429 hb; replace BK430 := bb_ BK430 hb; replace HB := bt_ HB hb; clear hb ho49))
   go_loopg [10, 45] k1 (fun kq v10 v45 w' => ∃ (x10_2 : List (S72)) (x45_2 : Int), v45 = .int .i64 x45_2 ∧ Aside0 (impl_MeasureOfFlow.l1 kq l2 x10_2 l2 (l2.length : Int) x45_2 a0 a1_0 a1_1 a1_2 = some (r1, r2, r3, r4, r5)) ∧ Aside0 (kq ≤ k1) ∧ Aside0 (Kd.R k72 72 w' w.heap.size (fun _ => True) v10 x10_2) ∧ Aside0 (w'.heap[gb428]? = some (.cells #[.int .i64 a0] 2 (0, 0))) ∧ Aside0 (w'.heap[gb429]? = some (.cells #[.int .i64 a1_0, .int .i64 a1_1, .int .i64 a1_2] 31 (0, 0))) ∧ Aside0 (w'.heap[gb430]? = some (.cells #[.int .i64 x431000_1, .int .i64 x431001_1, .int .i64 x431002_1, (.slice none 0 0)] 34 (0, 0))) ∧ Aside0 (Below w.heap.size w w'))
   case atStart => exact ⟨(y435), (0), en_, H', ⟨Nat.le_refl _⟩, ⟨by (with_reducible repeat (first | apply Kd.R_alloc | apply Kd.R_drewN | apply Kd.R_drew)); exact HO437.out⟩, bl_ BK428, bl_ BK429, bl_ BK430, bw_ HB⟩
   clear H'
   try clear c2
   try clear c15b0
   try clear c16b0
   try clear c17b0
   try clear c40
   try clear c40b0
   try clear c40b1
   try clear c40b2
   try clear c44
   try clear c44b0
   try clear c44b1
   try clear hcz11_0
   try clear hcz13_0 hcz13_1 hcz13_2
   try clear hcz24_0 hcz24_1 hcz24_2 hcz24_3
   try clear hcz27_0
   try clear hcz33_0 hcz33_1 hcz33_2 hcz33_3
   try clear hcz36_0
   try clear hcz39_0 hcz39_1 hcz39_2 hcz39_3
   try clear hcz43_0 hcz43_1 hcz43_2 hcz43_3
   try clear hcz47_0 hcz47_1 hcz47_2 hcz47_3
   try clear hfz11_0
   try clear hfz13_0 hfz13_1 hfz13_2
   try clear hfz24_0 hfz24_1 hfz24_2 hfz24_3
   try clear hfz27_0
   try clear hfz33_0 hfz33_1 hfz33_2 hfz33_3
   try clear hfz36_0
   try clear hfz39_0 hfz39_1 hfz39_2 hfz39_3
   try clear hfz43_0 hfz43_1 hfz43_2 hfz43_3
   try clear hfz47_0 hfz47_1 hfz47_2 hfz47_3
   try clear hx432_0
   try clear hx432_1
   try clear hx432_2
   try clear hx432_3
   try clear p432
   try clear q432
   obtain ⟨x10_2, x45_2, rfl, HA, HK2, HO_10, BK428, BK429, BK430, HB⟩ := hrel
   cases gk with
   | zero => exact absurd HA.out (by simp [impl_MeasureOfFlow.l1])
   | succ k2 =>
    have H := HA.out
    clear HA
    simp only [impl_MeasureOfFlow.l1] at H
    replace H := il_ H
    rcases H with ⟨c50b0, H⟩ | ⟨c50b0, H⟩
    ·replace H := imn_ H
     obtain ⟨c51b0, H⟩ := H
     replace H := iln_ H
     obtain ⟨c52b0, H⟩ := H
     replace H := oc_ H
     obtain ⟨t440, A53, H⟩ := H
     replace H := ib_ H
     rcases H with ⟨rfl, H⟩ | ⟨rfl, H⟩
     ·have H' := Aside0.mk H
      clear H
      have p438 : 0 ≤ (x45_2 : Int) := od_
      have q438 : x45_2 < (l2.length : Int) := od_
      obtain ⟨ad438, e438, hx438_0, hx438_1, hx438_2, hx438_3⟩ := at_T63 HR2.out x45_2 p438 q438
      cases e438
      replace hx438_0 := clTr HB.out hx438_0
      replace hx438_1 := clTr HB.out hx438_1
      replace hx438_2 := clTr HB.out hx438_2
      replace hx438_3 := clTr HB.out hx438_3
      replace p438 := eq_true p438
      replace q438 := eq_true q438
      go_wp2_with (first | ((with_reducible refine gd_ 12 ?_); refine bx_ 12 #[.int .i64 0, .int .i64 0, .int .i64 0, .int .i64 0] 63 ?_; intro gb439 hg w55 BK439 hb; have GW439 := bs_ HB hg; have NB428_439 := bm_ BK428 hg; have NB439_428 := bn_ BK428 hg; have NB429_439 := bm_ BK429 hg; have NB439_429 := bn_ BK429 hg; have NB430_439 := bm_ BK430 hg; have NB439_430 := bn_ BK430 hg; replace HO_10 := rb_ HO_10 hb; replace BK428 := bb_ BK428 hb; replace BK429 := bb_ BK429 hb; replace BK430 := bb_ BK430 hb; replace HB := bt_ HB hb; clear hb hg; obtain ⟨hcz59_0, hcz59_1, hcz59_2, hcz59_3, hfz59_0, hfz59_1, hfz59_2, hfz59_3⟩ := ch4_ BK439) | ((with_reducible refine gc_ 64 ?_); refine ge_ 51 Try.func64 #[.slice (some ad438) l2.length c2, .func (.func 65) #[] #[.pointer (some ⟨gb439, 0, none⟩), .pointer (some ⟨gb428, 0, none⟩)]] ?_; (with_reducible refine (impl_MeasureOfFlow_over.calls k2 _ _ l2 ((rd_T63 l2 x45_2).f0.f0) ((rd_T63 l2 x45_2).f0.f1) ((rd_T63 l2 x45_2).f0.f2) ((rd_T63 l2 x45_2).f1) a0 true _ gb439 gb428 ?sb0 ?sb1 ?side1 ?side2 A53.out).mono ?_); (case sb0 => exact (bp_ BK439).out); (case sb1 => exact (bp_ BK428).out); (case side1 => exact Kd.C_below HR2.out (bw_ HB).out); (case side2 => exact HC2.out); rintro e w60 ⟨rfl, hb⟩; refine ⟨_, rfl, ?_⟩; replace HO_10 := Aside0.mk (Kd.R_below (ra_ (rs4_ HO_10.out BK439.out)) hb); replace BK428 := fb_ BK428 NB428_439 hb; replace BK429 := fb_ BK429 NB429_439 hb; replace BK430 := fb_ BK430 NB430_439 hb; replace BK439 := Aside0.mk (blk_below (g := gb439) (o := .cells #[.int .i64 ((rd_T63 l2 x45_2).f0.f0), .int .i64 ((rd_T63 l2 x45_2).f0.f1), .int .i64 ((rd_T63 l2 x45_2).f0.f2), .int .i64 ((rd_T63 l2 x45_2).f1)] 63 (0, 0)) (bp_ BK439).out hb); replace HB := bt_ HB hb; (try clear hb)))
      go_roundg k2
      case measure => have := HK1.out; have := HK2.out; omega
      case rel => exact ⟨(x10_2), (wrap64 (x45_2 + 1)), en_, H', ⟨by have := HK1.out; have := HK2.out; omega⟩, ⟨by (with_reducible repeat (first | apply Kd.R_alloc | apply Kd.R_drewN | apply Kd.R_drew)); exact HO_10.out⟩, bl_ BK428, bl_ BK429, bl_ BK430, bw_ HB⟩
     by_cases c61 : x10_2.length < 4398046511104
     ·rw [if_pos c61] at H
      have LMc61 := Aside0.mk c61
      clear c61
      obtain ⟨y441, hy441⟩ : ∃ y_ : List (S72), y_ = (x10_2 ++ [(⟨(⟨(rd_T63 l2 x45_2).f0.f0, (rd_T63 l2 x45_2).f0.f1, (rd_T63 l2 x45_2).f0.f2⟩ : S31), (rd_T63 l2 x45_2).f1⟩ : S72)]) := ⟨_, rfl⟩
      replace H : (impl_MeasureOfFlow.l1 k2 l2 y441 l2 (l2.length : Int) (wrap64 (x45_2 + 1)) a0 a1_0 a1_1 a1_2) = some (r1, r2, r3, r4, r5) := by first | (rw [hy441]; with_reducible exact H) | (have H2_ := (Option.bind_some _ _).symm.trans H; rw [hy441]; with_reducible exact H2_) | (have H2_ := (Option.bind_some _ _).symm.trans H; with_reducible exact H2_) | with_reducible exact H | (rw [hy441]; exact H) | exact H
      have Ny441 := Aside0.mk hy441
      clear hy441
      have H' := Aside0.mk H
      clear H
      have p438 : 0 ≤ (x45_2 : Int) := od_
      have q438 : x45_2 < (l2.length : Int) := od_
      obtain ⟨ad438, e438, hx438_0, hx438_1, hx438_2, hx438_3⟩ := at_T63 HR2.out x45_2 p438 q438
      cases e438
      replace hx438_0 := clTr HB.out hx438_0
      replace hx438_1 := clTr HB.out hx438_1
      replace hx438_2 := clTr HB.out hx438_2
      replace hx438_3 := clTr HB.out hx438_3
      replace p438 := eq_true p438
      replace q438 := eq_true q438
      go_wp2_with (first | ((with_reducible refine gd_ 12 ?_); refine bx_ 12 #[.int .i64 0, .int .i64 0, .int .i64 0, .int .i64 0] 63 ?_; intro gb439 hg w62 BK439 hb; have GW439 := bs_ HB hg; have NB428_439 := bm_ BK428 hg; have NB439_428 := bn_ BK428 hg; have NB429_439 := bm_ BK429 hg; have NB439_429 := bn_ BK429 hg; have NB430_439 := bm_ BK430 hg; have NB439_430 := bn_ BK430 hg; replace HO_10 := rb_ HO_10 hb; replace BK428 := bb_ BK428 hb; replace BK429 := bb_ BK429 hb; replace BK430 := bb_ BK430 hb; replace HB := bt_ HB hb; clear hb hg; obtain ⟨hcz66_0, hcz66_1, hcz66_2, hcz66_3, hfz66_0, hfz66_1, hfz66_2, hfz66_3⟩ := ch4_ BK439) | ((with_reducible refine gc_ 64 ?_); refine ge_ 51 Try.func64 #[.slice (some ad438) l2.length c2, .func (.func 65) #[] #[.pointer (some ⟨gb439, 0, none⟩), .pointer (some ⟨gb428, 0, none⟩)]] ?_; (with_reducible refine (impl_MeasureOfFlow_over.calls k2 _ _ l2 ((rd_T63 l2 x45_2).f0.f0) ((rd_T63 l2 x45_2).f0.f1) ((rd_T63 l2 x45_2).f0.f2) ((rd_T63 l2 x45_2).f1) a0 false _ gb439 gb428 ?sb0 ?sb1 ?side1 ?side2 A53.out).mono ?_); (case sb0 => exact (bp_ BK439).out); (case sb1 => exact (bp_ BK428).out); (case side1 => exact Kd.C_below HR2.out (bw_ HB).out); (case side2 => exact HC2.out); rintro e w67 ⟨rfl, hb⟩; refine ⟨_, rfl, ?_⟩; replace HO_10 := Aside0.mk (Kd.R_below (ra_ (rs4_ HO_10.out BK439.out)) hb); replace BK428 := fb_ BK428 NB428_439 hb; replace BK429 := fb_ BK429 NB429_439 hb; replace BK430 := fb_ BK430 NB430_439 hb; replace BK439 := Aside0.mk (blk_below (g := gb439) (o := .cells #[.int .i64 ((rd_T63 l2 x45_2).f0.f0), .int .i64 ((rd_T63 l2 x45_2).f0.f1), .int .i64 ((rd_T63 l2 x45_2).f0.f2), .int .i64 ((rd_T63 l2 x45_2).f1)] 63 (0, 0)) (bp_ BK439).out hb); replace HB := bt_ HB hb; (try clear hb); (try clear hcz66_0 hcz66_1 hcz66_2 hcz66_3 hfz66_0 hfz66_1 hfz66_2 hfz66_3); obtain ⟨hcz68_0, hcz68_1, hcz68_2, hcz68_3, hfz68_0, hfz68_1, hfz68_2, hfz68_3⟩ := ch4_ BK439) | ((with_reducible refine gate_builtin (b := .append) (xs := #[.tmp 53, .tmp 59]) rfl ?_); at_builtin; refine Kd.R_append k72 (w0 := w) w.heap.size rfl (.tmp 53) (.tmp 59) 32 72 (.agg #[(.int .i64 0), (.int .i64 0), (.int .i64 0), (.int .i64 0)]) 32 rfl Try.underlying32 info72 rfl (by decide) (by omega) u10 x10_2 (⟨(⟨(rd_T63 l2 x45_2).f0.f0, (rd_T63 l2 x45_2).f0.f1, (rd_T63 l2 x45_2).f0.f2⟩ : S31), (rd_T63 l2 x45_2).f1⟩ : S72) [.int .i64 ((rd_T63 l2 x45_2).f0.f0), .int .i64 ((rd_T63 l2 x45_2).f0.f1), .int .i64 ((rd_T63 l2 x45_2).f0.f2), .int .i64 ((rd_T63 l2 x45_2).f1)] (fun _ => True) (fun _ => False) rfl rfl ?aP (fun _ hk => hk.elim) ?aF ?aO ?aB ?aS ?aL ?_; (case aP => exact k72_mkM _ _ _ (⟨(⟨(rd_T63 l2 x45_2).f0.f0, (rd_T63 l2 x45_2).f0.f1, (rd_T63 l2 x45_2).f0.f2⟩ : S31), (rd_T63 l2 x45_2).f1⟩ : S72)); (case aB => exact (bw_ HB).out); (case aF => exact (fun _ _ => trivial)); (case aO => exact (ra_ HO_10.out)); (case aS => exact (below_size (bw_ HB).out)); (case aL => have := LMc61.out; omega); intro v442 w69 ho hb hg hat; rw [← Ny441.out] at ho; have n0_ := Aside0.mk (blk_grown (g := gb428) (o := .cells #[.int .i64 a0] 2 (0, 0)) (bl_ BK428).out hg (Kd.R_ne HO_10.out BK428.out (by decide))); have n1_ := Aside0.mk (blk_grown (g := gb429) (o := .cells #[.int .i64 a1_0, .int .i64 a1_1, .int .i64 a1_2] 31 (0, 0)) (bl_ BK429).out hg (Kd.R_ne HO_10.out BK429.out (by decide))); have n2_ := Aside0.mk (blk_grown (g := gb430) (o := .cells #[.int .i64 x431000_1, .int .i64 x431001_1, .int .i64 x431002_1, .slice none 0 0] 34 (0, 0)) (bl_ BK430).out hg (Kd.R_ne HO_10.out BK430.out (by decide))); have n3_ := Aside0.mk (blk_grown (g := gb439) (o := .cells #[.int .i64 ((rd_T63 l2 x45_2).f0.f0), .int .i64 ((rd_T63 l2 x45_2).f0.f1), .int .i64 ((rd_T63 l2 x45_2).f0.f2), .int .i64 ((rd_T63 l2 x45_2).f1)] 63 (0, 0)) (bl_ BK439).out hg (Kd.R_ne HO_10.out BK439.out (by decide))); have n4_ := Aside0.mk (hb); have n5_ := Aside0.mk (ho); clear BK428; clear BK429; clear BK430; clear BK439; clear HB; clear HO_10; have BK428 := n0_; have BK429 := n1_; have BK430 := n2_; have BK439 := n3_; have HB := n4_; have HO443 := n5_; clear n0_ n1_ n2_ n3_ n4_ n5_; clear ho hb hg hat))
      go_roundg k2
      case measure => have := HK1.out; have := HK2.out; omega
      case rel => exact ⟨(y441), (wrap64 (x45_2 + 1)), en_, H', ⟨by have := HK1.out; have := HK2.out; omega⟩, ⟨by (with_reducible repeat (first | apply Kd.R_alloc | apply Kd.R_drewN | apply Kd.R_drew)); exact HO443.out⟩, bl_ BK428, bl_ BK429, bl_ BK430, bw_ HB⟩
     rw [if_neg c61] at H
     exact absurd H (by simp)
    replace H := oc_ H
    obtain ⟨⟨t444, t445, t446, t447⟩, A70, H⟩ := H
    replace H := oc_ H
    obtain ⟨t451, A71, H⟩ := H
    replace H := ib_ H
    rcases H with ⟨rfl, H⟩ | ⟨rfl, H⟩
    ·replace H := oc_ H
     obtain ⟨⟨t452, t455⟩, A73, H⟩ := H
     replace H := oc_ H
     obtain ⟨t456, A74, H⟩ := H
     replace H := ib_ H
     rcases H with ⟨rfl, H⟩ | ⟨rfl, H⟩
     ·replace H := ib_ H
      rcases H with ⟨rfl, H⟩ | ⟨rfl, H⟩
      ·simp only [Option.some.injEq, Prod.mk.injEq] at H
       obtain ⟨rfl, rfl, rfl, rfl, rfl⟩ := H
       have hnb77 := NB428_429.out
       have hnc77 := NB429_428.out
       obtain ⟨hcz79_0, hfz79_0⟩ := ch1_ BK428
       obtain ⟨hcz81_0, hcz81_1, hcz81_2, hfz81_0, hfz81_1, hfz81_2⟩ := ch3_ BK429
       obtain ⟨Ao82, co82, eo82⟩ := Kd.R_slice HO_10.out
       subst eo82
       go_wp2_with (first | ((with_reducible refine gk_ ?_); first | ((with_reducible refine gc_ 52 ?_); refine ge_ 65 Try.func52 #[.int .i64 a0, .agg #[.int .i64 a1_0, .int .i64 a1_1, .int .i64 a1_2], .slice Ao82 x10_2.length co82] ?_; (with_reducible refine (impl_sorted.calls k2 a0 a1_0 a1_1 a1_2 (fun k_ => some k_ = (.slice Ao82 x10_2.length co82 : Value).ownBlock) (.slice Ao82 x10_2.length co82) x10_2 t444 t445 t446 t447 w _ ?side1 ?side2 A70.out).mono ?_); (case side1 => repeat (first | (with_reducible first | exact HB.out | apply below_alloc | apply pw_below_drewN | apply below_drew1 | refine below_set ?_ GW428.out | refine below_set ?_ GW429.out | refine below_set ?_ GW430.out) | exact HB.out)); (case side2 => exact Kd.R_tight rfl HO_10.out); rintro e w83 ⟨v448, rfl, ho0, hb, hkp⟩; refine ⟨_, rfl, ?_⟩; have n0_ := Aside0.mk (blk_kept (bl_ BK428).out hkp (fun hs_ => (fun e_ => (Kd.R_ne HO_10.out BK428.out (by decide)) e_) hs_)); have n1_ := Aside0.mk (blk_kept (bl_ BK429).out hkp (fun hs_ => (fun e_ => (Kd.R_ne HO_10.out BK429.out (by decide)) e_) hs_)); have n2_ := Aside0.mk (blk_kept (bl_ BK430).out hkp (fun hs_ => (fun e_ => (Kd.R_ne HO_10.out BK430.out (by decide)) e_) hs_)); have n3_ := Aside0.mk (Kd.R_mono (ok' := fun k_ => True) ho0 (fun k_ hk_ => trivial)); have n4_ := Aside0.mk (hb); clear BK428; clear BK429; clear BK430; clear HB; clear HO_10; have BK428 := n0_; have BK429 := n1_; have BK430 := n2_; have HO449 := n3_; have HB := n4_; clear n0_ n1_ n2_ n3_ n4_; (try clear hb); (try clear hkp); (try clear ho0)) | ((with_reducible refine gc_ 33 ?_); refine ge_ 68 Try.func33 #[.int .i64 a0, .agg #[.int .i64 t444, .int .i64 t445, .int .i64 t446, .slice Ao89 t447.length co89]] ?_; (with_reducible refine (impl_IsMeasure.calls k2 a0 t444 t445 t446 _ _ t447 true _ ?side1 ?side2 A71.out).mono ?_); (case side1 => refine (Kd.R_reads' (e := 72) (base := w.heap.size) (ok := fun k_ => True) (n := t447.length) (c := co89) ?_).2.2; exact (ra_ (rs4_ HO449.out BK450.out))); (case side2 => exact (Kd.R_reads' HO449.out).2.1); rintro e w91 ⟨rfl, hb⟩; refine ⟨_, rfl, ?_⟩; replace HO449 := Aside0.mk (Kd.R_below (ra_ (rs4_ HO449.out BK450.out)) hb); replace BK428 := fb_ BK428 NB428_450 hb; replace BK429 := fb_ BK429 NB429_450 hb; replace BK430 := fb_ BK430 NB430_450 hb; replace BK450 := Aside0.mk (blk_below (g := gb450) (o := .cells #[.int .i64 t444, .int .i64 t445, .int .i64 t446, .slice Ao89 t447.length co89] 34 (0, 0)) (bp_ BK450).out hb); replace HB := bt_ HB hb; (try clear hb); (try clear hcz88_0 hcz88_1 hcz88_2 hcz88_3 hfz88_0 hfz88_1 hfz88_2 hfz88_3); (try clear hcz90_0 hfz90_0); obtain ⟨hcz92_0, hfz92_0⟩ := ch1_ BK428; obtain ⟨hcz93_0, hcz93_1, hcz93_2, hcz93_3, hfz93_0, hfz93_1, hfz93_2, hfz93_3⟩ := ch4_ BK450) | ((with_reducible refine gc_ 34 ?_); refine ge_ 74 Try.func34 #[.int .i64 a0, .agg #[.int .i64 t444, .int .i64 t445, .int .i64 t446, .slice Ao89 t447.length co89]] ?_; (with_reducible refine (impl_flowOf.calls k2 a0 t444 t445 t446 _ _ t447 t452 true _ ?side1 ?side2 A73.out).mono ?_); (case side1 => exact ca_ (Kd.R_reads' HO449.out).2.2); (case side2 => exact (Kd.R_reads' HO449.out).2.1); rintro e w94 ⟨v453, rfl, ho0, hb⟩; refine ⟨_, rfl, ?_⟩; have HO454 := Aside0.mk (Kd.R_lower ho0 (below_size (bw_ HB).out)); replace HO449 := rb_ HO449 hb; replace BK428 := bb_ BK428 hb; replace BK429 := bb_ BK429 hb; replace BK430 := bb_ BK430 hb; replace BK450 := bb_ BK450 hb; replace HB := bt_ HB hb; (try clear hb); (try clear ho0); obtain ⟨Ao95, co95, eo95⟩ := Kd.R_slice HO454.out; subst eo95) | ((with_reducible refine gc_ 66 ?_); refine ge_ 80 Try.func66 #[.slice Ao95 t452.length co95, .slice A2 l2.length c2] ?_; (with_reducible refine (slices_Equal_impl_Flow.calls k2 _ _ t452 _ _ l2 true _ ?side1 ?side2 ?side3 ?side4 A74.out).mono ?_); (case side1 => exact ca_ (Kd.R_reads' HO454.out).2.2); (case side2 => exact (Kd.R_reads' HO454.out).2.1); (case side3 => exact ca_ (Kd.C_below HR2.out HB.out)); (case side4 => exact HC2.out); rintro e w' ⟨rfl, ⟨nd, rfl⟩⟩; refine ⟨_, rfl, ?_⟩; (try (rw [drewN_self w94]; generalize hq_ : World.drewN w94 _ = w94; have n0_ : Aside0 (Kd.R k72 72 w94 w.heap.size (fun _ => True) (.slice Ao89 t447.length co89) t447) := ⟨by rw [← hq_]; exact (ra_ HO449.out)⟩; have n1_ : Aside0 (Kd.R k63 63 w94 w.heap.size (fun _ => True) (.slice Ao95 t452.length co95) t452) := ⟨by rw [← hq_]; exact (ra_ HO454.out)⟩; have n2_ := bq_ BK428 hq_; have n3_ := bq_ BK429 hq_; have n4_ := bq_ BK430 hq_; have n5_ := bq_ BK450 hq_; have n6_ := hq_' HB hq_; clear HO449 HO454 BK428 BK429 BK430 BK450 HB hq_; have HO449 := n0_; have HO454 := n1_; have BK428 := n2_; have BK429 := n3_; have BK430 := n4_; have BK450 := n5_; have HB := n6_; clear n0_ n1_ n2_ n3_ n4_ n5_ n6_)); (try clear hcz92_0 hfz92_0); (try clear hcz93_0 hcz93_1 hcz93_2 hcz93_3 hfz93_0 hfz93_1 hfz93_2 hfz93_3); obtain ⟨hcz96_0, hcz96_1, hcz96_2, hcz96_3, hfz96_0, hfz96_1, hfz96_2, hfz96_3⟩ := ch4_ BK450; obtain ⟨hcz97_0, hcz97_1, hcz97_2, hcz97_3, hfz97_0, hfz97_1, hfz97_2, hfz97_3⟩ := ch4_ BK430)) | ((with_reducible refine gd_ 13 ?_); refine bx_ 13 #[.int .i64 0, .int .i64 0, .int .i64 0, .slice none 0 0] 34 ?_; intro gb450 hg w84 BK450 hb; have GW450 := bs_ HB hg; have NB428_450 := bm_ BK428 hg; have NB450_428 := bn_ BK428 hg; have NB429_450 := bm_ BK429 hg; have NB450_429 := bn_ BK429 hg; have NB430_450 := bm_ BK430 hg; have NB450_430 := bn_ BK430 hg; replace HO449 := rb_ HO449 hb; replace BK428 := bb_ BK428 hb; replace BK429 := bb_ BK429 hb; replace BK430 := bb_ BK430 hb; replace HB := bt_ HB hb; clear hb hg; have hnb85 := NB450_428.out; have hnc85 := NB428_450.out; obtain ⟨hcz88_0, hcz88_1, hcz88_2, hcz88_3, hfz88_0, hfz88_1, hfz88_2, hfz88_3⟩ := ch4_ BK450; obtain ⟨Ao89, co89, eo89⟩ := Kd.R_slice HO449.out; subst eo89; obtain ⟨hcz90_0, hfz90_0⟩ := ch1_ BK428))
       refine bodyPost_ret (results_ct rfl _ _ gb430 34 #[.int .i64 t444, .int .i64 t445, .int .i64 t446, .slice Ao89 t447.length co89] (0, 0) _ rfl (bp_ BK430).out Try.underlying34 rfl (by kernel_rfl)) rfl ?_
       exact ⟨_, es_, by (with_reducible repeat (first | apply Kd.R_alloc | apply Kd.R_drewN | apply Kd.R_drew)); exact Kd.R_mono (Kd.R_far (p := ⟨gb430, 3, none⟩) (Kd.R_far (p := ⟨gb430, 2, none⟩) (Kd.R_far (p := ⟨gb430, 1, none⟩) (Kd.R_far (p := ⟨gb430, 0, none⟩) (Kd.R_types HO449.out BK430.out (by decide)) (fun _ hk => hk.2) (.int .i64 t444)) (fun _ hk => hk.2) (.int .i64 t445)) (fun _ hk => hk.2) (.int .i64 t446)) (fun _ hk => hk.2) (.slice Ao89 t447.length co89)) (fun _ hk => trivial), (bw_ HB).out⟩
      simp only [Option.some.injEq, Prod.mk.injEq] at H
      obtain ⟨rfl, rfl, rfl, rfl, rfl⟩ := H
      have hnb98 := NB428_429.out
      have hnc98 := NB429_428.out
      obtain ⟨hcz100_0, hfz100_0⟩ := ch1_ BK428
      obtain ⟨hcz102_0, hcz102_1, hcz102_2, hfz102_0, hfz102_1, hfz102_2⟩ := ch3_ BK429
      obtain ⟨Ao103, co103, eo103⟩ := Kd.R_slice HO_10.out
      subst eo103
      go_wp2_with (first | ((with_reducible refine gk_ ?_); first | ((with_reducible refine gc_ 52 ?_); refine ge_ 65 Try.func52 #[.int .i64 a0, .agg #[.int .i64 a1_0, .int .i64 a1_1, .int .i64 a1_2], .slice Ao103 x10_2.length co103] ?_; (with_reducible refine (impl_sorted.calls k2 a0 a1_0 a1_1 a1_2 (fun k_ => some k_ = (.slice Ao103 x10_2.length co103 : Value).ownBlock) (.slice Ao103 x10_2.length co103) x10_2 t444 t445 t446 t447 w _ ?side1 ?side2 A70.out).mono ?_); (case side1 => repeat (first | (with_reducible first | exact HB.out | apply below_alloc | apply pw_below_drewN | apply below_drew1 | refine below_set ?_ GW428.out | refine below_set ?_ GW429.out | refine below_set ?_ GW430.out) | exact HB.out)); (case side2 => exact Kd.R_tight rfl HO_10.out); rintro e w104 ⟨v448, rfl, ho0, hb, hkp⟩; refine ⟨_, rfl, ?_⟩; have n0_ := Aside0.mk (blk_kept (bl_ BK428).out hkp (fun hs_ => (fun e_ => (Kd.R_ne HO_10.out BK428.out (by decide)) e_) hs_)); have n1_ := Aside0.mk (blk_kept (bl_ BK429).out hkp (fun hs_ => (fun e_ => (Kd.R_ne HO_10.out BK429.out (by decide)) e_) hs_)); have n2_ := Aside0.mk (blk_kept (bl_ BK430).out hkp (fun hs_ => (fun e_ => (Kd.R_ne HO_10.out BK430.out (by decide)) e_) hs_)); have n3_ := Aside0.mk (Kd.R_mono (ok' := fun k_ => True) ho0 (fun k_ hk_ => trivial)); have n4_ := Aside0.mk (hb); clear BK428; clear BK429; clear BK430; clear HB; clear HO_10; have BK428 := n0_; have BK429 := n1_; have BK430 := n2_; have HO449 := n3_; have HB := n4_; clear n0_ n1_ n2_ n3_ n4_; (try clear hb); (try clear hkp); (try clear ho0)) | ((with_reducible refine gc_ 33 ?_); refine ge_ 68 Try.func33 #[.int .i64 a0, .agg #[.int .i64 t444, .int .i64 t445, .int .i64 t446, .slice Ao110 t447.length co110]] ?_; (with_reducible refine (impl_IsMeasure.calls k2 a0 t444 t445 t446 _ _ t447 true _ ?side1 ?side2 A71.out).mono ?_); (case side1 => refine (Kd.R_reads' (e := 72) (base := w.heap.size) (ok := fun k_ => True) (n := t447.length) (c := co110) ?_).2.2; exact (ra_ (rs4_ HO449.out BK450.out))); (case side2 => exact (Kd.R_reads' HO449.out).2.1); rintro e w112 ⟨rfl, hb⟩; refine ⟨_, rfl, ?_⟩; replace HO449 := Aside0.mk (Kd.R_below (ra_ (rs4_ HO449.out BK450.out)) hb); replace BK428 := fb_ BK428 NB428_450 hb; replace BK429 := fb_ BK429 NB429_450 hb; replace BK430 := fb_ BK430 NB430_450 hb; replace BK450 := Aside0.mk (blk_below (g := gb450) (o := .cells #[.int .i64 t444, .int .i64 t445, .int .i64 t446, .slice Ao110 t447.length co110] 34 (0, 0)) (bp_ BK450).out hb); replace HB := bt_ HB hb; (try clear hb); (try clear hcz109_0 hcz109_1 hcz109_2 hcz109_3 hfz109_0 hfz109_1 hfz109_2 hfz109_3); (try clear hcz111_0 hfz111_0); obtain ⟨hcz113_0, hfz113_0⟩ := ch1_ BK428; obtain ⟨hcz114_0, hcz114_1, hcz114_2, hcz114_3, hfz114_0, hfz114_1, hfz114_2, hfz114_3⟩ := ch4_ BK450) | ((with_reducible refine gc_ 34 ?_); refine ge_ 74 Try.func34 #[.int .i64 a0, .agg #[.int .i64 t444, .int .i64 t445, .int .i64 t446, .slice Ao110 t447.length co110]] ?_; (with_reducible refine (impl_flowOf.calls k2 a0 t444 t445 t446 _ _ t447 t452 false _ ?side1 ?side2 A73.out).mono ?_); (case side1 => exact ca_ (Kd.R_reads' HO449.out).2.2); (case side2 => exact (Kd.R_reads' HO449.out).2.1); rintro e w115 ⟨v453, rfl, ho0, hb⟩; refine ⟨_, rfl, ?_⟩; have HO454 := Aside0.mk (Kd.R_lower ho0 (below_size (bw_ HB).out)); replace HO449 := rb_ HO449 hb; replace BK428 := bb_ BK428 hb; replace BK429 := bb_ BK429 hb; replace BK430 := bb_ BK430 hb; replace BK450 := bb_ BK450 hb; replace HB := bt_ HB hb; (try clear hb); (try clear ho0); obtain ⟨Ao116, co116, eo116⟩ := Kd.R_slice HO454.out; subst eo116) | ((with_reducible refine gc_ 66 ?_); refine ge_ 80 Try.func66 #[.slice Ao116 t452.length co116, .slice A2 l2.length c2] ?_; (with_reducible refine (slices_Equal_impl_Flow.calls k2 _ _ t452 _ _ l2 true _ ?side1 ?side2 ?side3 ?side4 A74.out).mono ?_); (case side1 => exact ca_ (Kd.R_reads' HO454.out).2.2); (case side2 => exact (Kd.R_reads' HO454.out).2.1); (case side3 => exact ca_ (Kd.C_below HR2.out HB.out)); (case side4 => exact HC2.out); rintro e w' ⟨rfl, ⟨nd, rfl⟩⟩; refine ⟨_, rfl, ?_⟩; (try (rw [drewN_self w115]; generalize hq_ : World.drewN w115 _ = w115; have n0_ : Aside0 (Kd.R k72 72 w115 w.heap.size (fun _ => True) (.slice Ao110 t447.length co110) t447) := ⟨by rw [← hq_]; exact (ra_ HO449.out)⟩; have n1_ : Aside0 (Kd.R k63 63 w115 w.heap.size (fun _ => True) (.slice Ao116 t452.length co116) t452) := ⟨by rw [← hq_]; exact (ra_ HO454.out)⟩; have n2_ := bq_ BK428 hq_; have n3_ := bq_ BK429 hq_; have n4_ := bq_ BK430 hq_; have n5_ := bq_ BK450 hq_; have n6_ := hq_' HB hq_; clear HO449 HO454 BK428 BK429 BK430 BK450 HB hq_; have HO449 := n0_; have HO454 := n1_; have BK428 := n2_; have BK429 := n3_; have BK430 := n4_; have BK450 := n5_; have HB := n6_; clear n0_ n1_ n2_ n3_ n4_ n5_ n6_)); (try clear hcz113_0 hfz113_0); (try clear hcz114_0 hcz114_1 hcz114_2 hcz114_3 hfz114_0 hfz114_1 hfz114_2 hfz114_3); obtain ⟨hcz117_0, hcz117_1, hcz117_2, hcz117_3, hfz117_0, hfz117_1, hfz117_2, hfz117_3⟩ := ch4_ BK430)) | ((with_reducible refine gd_ 13 ?_); refine bx_ 13 #[.int .i64 0, .int .i64 0, .int .i64 0, .slice none 0 0] 34 ?_; intro gb450 hg w105 BK450 hb; have GW450 := bs_ HB hg; have NB428_450 := bm_ BK428 hg; have NB450_428 := bn_ BK428 hg; have NB429_450 := bm_ BK429 hg; have NB450_429 := bn_ BK429 hg; have NB430_450 := bm_ BK430 hg; have NB450_430 := bn_ BK430 hg; replace HO449 := rb_ HO449 hb; replace BK428 := bb_ BK428 hb; replace BK429 := bb_ BK429 hb; replace BK430 := bb_ BK430 hb; replace HB := bt_ HB hb; clear hb hg; have hnb106 := NB450_428.out; have hnc106 := NB428_450.out; obtain ⟨hcz109_0, hcz109_1, hcz109_2, hcz109_3, hfz109_0, hfz109_1, hfz109_2, hfz109_3⟩ := ch4_ BK450; obtain ⟨Ao110, co110, eo110⟩ := Kd.R_slice HO449.out; subst eo110; obtain ⟨hcz111_0, hfz111_0⟩ := ch1_ BK428))
      refine bodyPost_ret (results_ct rfl _ _ gb430 34 #[.int .i64 0, .int .i64 0, .int .i64 0, .slice none 0 0] (0, 0) _ rfl (bp_ BK430).out Try.underlying34 rfl (by kernel_rfl)) rfl ?_
      exact ⟨_, es_, by first | exact Kd.R_nil _ _ _ _ _ | exact Kd.N_nil _ _ _ _ _ | exact Kd.V_nil _ _ _ _ _ | exact Kd.Q_nil _ _ _ _ _ | exact Kd.S_nil _ _ _ _ _, (bw_ HB).out⟩
     simp only [Option.some.injEq, Prod.mk.injEq] at H
     obtain ⟨rfl, rfl, rfl, rfl, rfl⟩ := H
     have hnb118 := NB428_429.out
     have hnc118 := NB429_428.out
     obtain ⟨hcz120_0, hfz120_0⟩ := ch1_ BK428
     obtain ⟨hcz122_0, hcz122_1, hcz122_2, hfz122_0, hfz122_1, hfz122_2⟩ := ch3_ BK429
     obtain ⟨Ao123, co123, eo123⟩ := Kd.R_slice HO_10.out
     subst eo123
     go_wp2_with (first | ((with_reducible refine gk_ ?_); first | ((with_reducible refine gc_ 52 ?_); refine ge_ 65 Try.func52 #[.int .i64 a0, .agg #[.int .i64 a1_0, .int .i64 a1_1, .int .i64 a1_2], .slice Ao123 x10_2.length co123] ?_; (with_reducible refine (impl_sorted.calls k2 a0 a1_0 a1_1 a1_2 (fun k_ => some k_ = (.slice Ao123 x10_2.length co123 : Value).ownBlock) (.slice Ao123 x10_2.length co123) x10_2 t444 t445 t446 t447 w _ ?side1 ?side2 A70.out).mono ?_); (case side1 => repeat (first | (with_reducible first | exact HB.out | apply below_alloc | apply pw_below_drewN | apply below_drew1 | refine below_set ?_ GW428.out | refine below_set ?_ GW429.out | refine below_set ?_ GW430.out) | exact HB.out)); (case side2 => exact Kd.R_tight rfl HO_10.out); rintro e w124 ⟨v448, rfl, ho0, hb, hkp⟩; refine ⟨_, rfl, ?_⟩; have n0_ := Aside0.mk (blk_kept (bl_ BK428).out hkp (fun hs_ => (fun e_ => (Kd.R_ne HO_10.out BK428.out (by decide)) e_) hs_)); have n1_ := Aside0.mk (blk_kept (bl_ BK429).out hkp (fun hs_ => (fun e_ => (Kd.R_ne HO_10.out BK429.out (by decide)) e_) hs_)); have n2_ := Aside0.mk (blk_kept (bl_ BK430).out hkp (fun hs_ => (fun e_ => (Kd.R_ne HO_10.out BK430.out (by decide)) e_) hs_)); have n3_ := Aside0.mk (Kd.R_mono (ok' := fun k_ => True) ho0 (fun k_ hk_ => trivial)); have n4_ := Aside0.mk (hb); clear BK428; clear BK429; clear BK430; clear HB; clear HO_10; have BK428 := n0_; have BK429 := n1_; have BK430 := n2_; have HO449 := n3_; have HB := n4_; clear n0_ n1_ n2_ n3_ n4_; (try clear hb); (try clear hkp); (try clear ho0)) | ((with_reducible refine gc_ 33 ?_); refine ge_ 68 Try.func33 #[.int .i64 a0, .agg #[.int .i64 t444, .int .i64 t445, .int .i64 t446, .slice Ao130 t447.length co130]] ?_; (with_reducible refine (impl_IsMeasure.calls k2 a0 t444 t445 t446 _ _ t447 true _ ?side1 ?side2 A71.out).mono ?_); (case side1 => refine (Kd.R_reads' (e := 72) (base := w.heap.size) (ok := fun k_ => True) (n := t447.length) (c := co130) ?_).2.2; exact (ra_ (rs4_ HO449.out BK450.out))); (case side2 => exact (Kd.R_reads' HO449.out).2.1); rintro e w132 ⟨rfl, hb⟩; refine ⟨_, rfl, ?_⟩; replace HO449 := Aside0.mk (Kd.R_below (ra_ (rs4_ HO449.out BK450.out)) hb); replace BK428 := fb_ BK428 NB428_450 hb; replace BK429 := fb_ BK429 NB429_450 hb; replace BK430 := fb_ BK430 NB430_450 hb; replace BK450 := Aside0.mk (blk_below (g := gb450) (o := .cells #[.int .i64 t444, .int .i64 t445, .int .i64 t446, .slice Ao130 t447.length co130] 34 (0, 0)) (bp_ BK450).out hb); replace HB := bt_ HB hb; (try clear hb); (try clear hcz129_0 hcz129_1 hcz129_2 hcz129_3 hfz129_0 hfz129_1 hfz129_2 hfz129_3); (try clear hcz131_0 hfz131_0); obtain ⟨hcz133_0, hfz133_0⟩ := ch1_ BK428; obtain ⟨hcz134_0, hcz134_1, hcz134_2, hcz134_3, hfz134_0, hfz134_1, hfz134_2, hfz134_3⟩ := ch4_ BK450) | ((with_reducible refine gc_ 34 ?_); refine ge_ 74 Try.func34 #[.int .i64 a0, .agg #[.int .i64 t444, .int .i64 t445, .int .i64 t446, .slice Ao130 t447.length co130]] ?_; (with_reducible refine (impl_flowOf.calls k2 a0 t444 t445 t446 _ _ t447 t452 t455 _ ?side1 ?side2 A73.out).mono ?_); (case side1 => exact ca_ (Kd.R_reads' HO449.out).2.2); (case side2 => exact (Kd.R_reads' HO449.out).2.1); rintro e w135 ⟨v453, rfl, ho0, hb⟩; refine ⟨_, rfl, ?_⟩; have HO454 := Aside0.mk (Kd.R_lower ho0 (below_size (bw_ HB).out)); replace HO449 := rb_ HO449 hb; replace BK428 := bb_ BK428 hb; replace BK429 := bb_ BK429 hb; replace BK430 := bb_ BK430 hb; replace BK450 := bb_ BK450 hb; replace HB := bt_ HB hb; (try clear hb); (try clear ho0); obtain ⟨Ao136, co136, eo136⟩ := Kd.R_slice HO454.out; subst eo136) | ((with_reducible refine gc_ 66 ?_); refine ge_ 80 Try.func66 #[.slice Ao136 t452.length co136, .slice A2 l2.length c2] ?_; (with_reducible refine (slices_Equal_impl_Flow.calls k2 _ _ t452 _ _ l2 false _ ?side1 ?side2 ?side3 ?side4 A74.out).mono ?_); (case side1 => exact ca_ (Kd.R_reads' HO454.out).2.2); (case side2 => exact (Kd.R_reads' HO454.out).2.1); (case side3 => exact ca_ (Kd.C_below HR2.out HB.out)); (case side4 => exact HC2.out); rintro e w' ⟨rfl, ⟨nd, rfl⟩⟩; refine ⟨_, rfl, ?_⟩; (try (rw [drewN_self w135]; generalize hq_ : World.drewN w135 _ = w135; have n0_ : Aside0 (Kd.R k72 72 w135 w.heap.size (fun _ => True) (.slice Ao130 t447.length co130) t447) := ⟨by rw [← hq_]; exact (ra_ HO449.out)⟩; have n1_ : Aside0 (Kd.R k63 63 w135 w.heap.size (fun _ => True) (.slice Ao136 t452.length co136) t452) := ⟨by rw [← hq_]; exact (ra_ HO454.out)⟩; have n2_ := bq_ BK428 hq_; have n3_ := bq_ BK429 hq_; have n4_ := bq_ BK430 hq_; have n5_ := bq_ BK450 hq_; have n6_ := hq_' HB hq_; clear HO449 HO454 BK428 BK429 BK430 BK450 HB hq_; have HO449 := n0_; have HO454 := n1_; have BK428 := n2_; have BK429 := n3_; have BK430 := n4_; have BK450 := n5_; have HB := n6_; clear n0_ n1_ n2_ n3_ n4_ n5_ n6_)); (try clear hcz133_0 hfz133_0); (try clear hcz134_0 hcz134_1 hcz134_2 hcz134_3 hfz134_0 hfz134_1 hfz134_2 hfz134_3); obtain ⟨hcz137_0, hcz137_1, hcz137_2, hcz137_3, hfz137_0, hfz137_1, hfz137_2, hfz137_3⟩ := ch4_ BK430)) | ((with_reducible refine gd_ 13 ?_); refine bx_ 13 #[.int .i64 0, .int .i64 0, .int .i64 0, .slice none 0 0] 34 ?_; intro gb450 hg w125 BK450 hb; have GW450 := bs_ HB hg; have NB428_450 := bm_ BK428 hg; have NB450_428 := bn_ BK428 hg; have NB429_450 := bm_ BK429 hg; have NB450_429 := bn_ BK429 hg; have NB430_450 := bm_ BK430 hg; have NB450_430 := bn_ BK430 hg; replace HO449 := rb_ HO449 hb; replace BK428 := bb_ BK428 hb; replace BK429 := bb_ BK429 hb; replace BK430 := bb_ BK430 hb; replace HB := bt_ HB hb; clear hb hg; have hnb126 := NB450_428.out; have hnc126 := NB428_450.out; obtain ⟨hcz129_0, hcz129_1, hcz129_2, hcz129_3, hfz129_0, hfz129_1, hfz129_2, hfz129_3⟩ := ch4_ BK450; obtain ⟨Ao130, co130, eo130⟩ := Kd.R_slice HO449.out; subst eo130; obtain ⟨hcz131_0, hfz131_0⟩ := ch1_ BK428))
     refine bodyPost_ret (results_ct rfl _ _ gb430 34 #[.int .i64 0, .int .i64 0, .int .i64 0, .slice none 0 0] (0, 0) _ rfl (bp_ BK430).out Try.underlying34 rfl (by kernel_rfl)) rfl ?_
     exact ⟨_, es_, by first | exact Kd.R_nil _ _ _ _ _ | exact Kd.N_nil _ _ _ _ _ | exact Kd.V_nil _ _ _ _ _ | exact Kd.Q_nil _ _ _ _ _ | exact Kd.S_nil _ _ _ _ _, (bw_ HB).out⟩
    simp only [Option.some.injEq, Prod.mk.injEq] at H
    obtain ⟨rfl, rfl, rfl, rfl, rfl⟩ := H
    have hnb138 := NB428_429.out
    have hnc138 := NB429_428.out
    obtain ⟨hcz140_0, hfz140_0⟩ := ch1_ BK428
    obtain ⟨hcz142_0, hcz142_1, hcz142_2, hfz142_0, hfz142_1, hfz142_2⟩ := ch3_ BK429
    obtain ⟨Ao143, co143, eo143⟩ := Kd.R_slice HO_10.out
    subst eo143
    go_wp2_with (first | ((with_reducible refine gc_ 52 ?_); refine ge_ 65 Try.func52 #[.int .i64 a0, .agg #[.int .i64 a1_0, .int .i64 a1_1, .int .i64 a1_2], .slice Ao143 x10_2.length co143] ?_; (with_reducible refine (impl_sorted.calls k2 a0 a1_0 a1_1 a1_2 (fun k_ => some k_ = (.slice Ao143 x10_2.length co143 : Value).ownBlock) (.slice Ao143 x10_2.length co143) x10_2 t444 t445 t446 t447 w _ ?side1 ?side2 A70.out).mono ?_); (case side1 => repeat (first | (with_reducible first | exact HB.out | apply below_alloc | apply pw_below_drewN | apply below_drew1 | refine below_set ?_ GW428.out | refine below_set ?_ GW429.out | refine below_set ?_ GW430.out) | exact HB.out)); (case side2 => exact Kd.R_tight rfl HO_10.out); rintro e w144 ⟨v448, rfl, ho0, hb, hkp⟩; refine ⟨_, rfl, ?_⟩; have n0_ := Aside0.mk (blk_kept (bl_ BK428).out hkp (fun hs_ => (fun e_ => (Kd.R_ne HO_10.out BK428.out (by decide)) e_) hs_)); have n1_ := Aside0.mk (blk_kept (bl_ BK429).out hkp (fun hs_ => (fun e_ => (Kd.R_ne HO_10.out BK429.out (by decide)) e_) hs_)); have n2_ := Aside0.mk (blk_kept (bl_ BK430).out hkp (fun hs_ => (fun e_ => (Kd.R_ne HO_10.out BK430.out (by decide)) e_) hs_)); have n3_ := Aside0.mk (Kd.R_mono (ok' := fun k_ => True) ho0 (fun k_ hk_ => trivial)); have n4_ := Aside0.mk (hb); clear BK428; clear BK429; clear BK430; clear HB; clear HO_10; have BK428 := n0_; have BK429 := n1_; have BK430 := n2_; have HO449 := n3_; have HB := n4_; clear n0_ n1_ n2_ n3_ n4_; (try clear hb); (try clear hkp); (try clear ho0)) | ((with_reducible refine gd_ 13 ?_); refine bx_ 13 #[.int .i64 0, .int .i64 0, .int .i64 0, .slice none 0 0] 34 ?_; intro gb450 hg w145 BK450 hb; have GW450 := bs_ HB hg; have NB428_450 := bm_ BK428 hg; have NB450_428 := bn_ BK428 hg; have NB429_450 := bm_ BK429 hg; have NB450_429 := bn_ BK429 hg; have NB430_450 := bm_ BK430 hg; have NB450_430 := bn_ BK430 hg; replace HO449 := rb_ HO449 hb; replace BK428 := bb_ BK428 hb; replace BK429 := bb_ BK429 hb; replace BK430 := bb_ BK430 hb; replace HB := bt_ HB hb; clear hb hg; have hnb146 := NB450_428.out; have hnc146 := NB428_450.out; obtain ⟨hcz149_0, hcz149_1, hcz149_2, hcz149_3, hfz149_0, hfz149_1, hfz149_2, hfz149_3⟩ := ch4_ BK450; obtain ⟨Ao150, co150, eo150⟩ := Kd.R_slice HO449.out; subst eo150; obtain ⟨hcz151_0, hfz151_0⟩ := ch1_ BK428) | ((with_reducible refine gc_ 33 ?_); refine ge_ 68 Try.func33 #[.int .i64 a0, .agg #[.int .i64 t444, .int .i64 t445, .int .i64 t446, .slice Ao150 t447.length co150]] ?_; (with_reducible refine (impl_IsMeasure.calls k2 a0 t444 t445 t446 _ _ t447 false _ ?side1 ?side2 A71.out).mono ?_); (case side1 => refine (Kd.R_reads' (e := 72) (base := w.heap.size) (ok := fun k_ => True) (n := t447.length) (c := co150) ?_).2.2; exact (ra_ (rs4_ HO449.out BK450.out))); (case side2 => exact (Kd.R_reads' HO449.out).2.1); rintro e w152 ⟨rfl, hb⟩; refine ⟨_, rfl, ?_⟩; replace HO449 := Aside0.mk (Kd.R_below (ra_ (rs4_ HO449.out BK450.out)) hb); replace BK428 := fb_ BK428 NB428_450 hb; replace BK429 := fb_ BK429 NB429_450 hb; replace BK430 := fb_ BK430 NB430_450 hb; replace BK450 := Aside0.mk (blk_below (g := gb450) (o := .cells #[.int .i64 t444, .int .i64 t445, .int .i64 t446, .slice Ao150 t447.length co150] 34 (0, 0)) (bp_ BK450).out hb); replace HB := bt_ HB hb; (try clear hb); (try clear hcz149_0 hcz149_1 hcz149_2 hcz149_3 hfz149_0 hfz149_1 hfz149_2 hfz149_3); (try clear hcz151_0 hfz151_0); obtain ⟨hcz153_0, hcz153_1, hcz153_2, hcz153_3, hfz153_0, hfz153_1, hfz153_2, hfz153_3⟩ := ch4_ BK430))
    refine bodyPost_ret (results_ct rfl _ _ gb430 34 #[.int .i64 0, .int .i64 0, .int .i64 0, .slice none 0 0] (0, 0) _ rfl (bp_ BK430).out Try.underlying34 rfl (by kernel_rfl)) rfl ?_
    exact ⟨_, es_, by first | exact Kd.R_nil _ _ _ _ _ | exact Kd.N_nil _ _ _ _ _ | exact Kd.V_nil _ _ _ _ _ | exact Kd.Q_nil _ _ _ _ _ | exact Kd.S_nil _ _ _ _ _, (bw_ HB).out⟩
 simp only [Option.some.injEq, Prod.mk.injEq] at H
 obtain ⟨rfl, rfl, rfl, rfl, rfl⟩ := H
 go_enter Try.func28, Try.ntmps28
 go_wp2_with (first | ((with_reducible refine gd_ 3 ?_); refine by_ 3 #[.int .i64 a0] 2 HB ?_; intro gb428 hg w154 BK428 hb GW428 HB_; replace HB := HB_; clear hb hg) | ((with_reducible refine gd_ 4 ?_); refine by_ 4 #[.int .i64 a1_0, .int .i64 a1_1, .int .i64 a1_2] 31 HB ?_; intro gb429 hg w155 BK429 hb GW429 HB_; have NB428_429 := bm_ BK428 hg; have NB429_428 := bn_ BK428 hg; replace BK428 := bb_ BK428 hb; replace HB := HB_; clear hb hg) | ((with_reducible refine gd_ 6 ?_); refine by_ 6 #[.int .i64 0, .int .i64 0, .int .i64 0, .slice none 0 0] 34 HB ?_; intro gb430 hg w156 BK430 hb GW430 HB_; have NB428_430 := bm_ BK428 hg; have NB430_428 := bn_ BK428 hg; have NB429_430 := bm_ BK429 hg; have NB430_429 := bn_ BK429 hg; replace BK428 := bb_ BK428 hb; replace BK429 := bb_ BK429 hb; replace HB := HB_; clear hb hg; have hnb157 := NB428_429.out; have hnc157 := NB429_428.out; obtain ⟨hcz159_0, hfz159_0⟩ := ch1_ BK428; obtain ⟨hcz161_0, hcz161_1, hcz161_2, hfz161_0, hfz161_1, hfz161_2⟩ := ch3_ BK429) | ((with_reducible refine gc_ 63 ?_); refine ge_ 18 Try.func63 #[.int .i64 a0, .agg #[.int .i64 a1_0, .int .i64 a1_1, .int .i64 a1_2]] ?_; (with_reducible refine (impl_IsBall.calls k a0 a1_0 a1_1 a1_2 false _ A4.out).mono ?_); rintro e w162 ⟨rfl, hb⟩; refine ⟨_, rfl, ?_⟩; replace BK428 := bb_ BK428 hb; replace BK429 := bb_ BK429 hb; replace BK430 := bb_ BK430 hb; replace HB := bt_ HB hb; (try clear hb); (try clear hcz159_0 hfz159_0); (try clear hcz161_0 hcz161_1 hcz161_2 hfz161_0 hfz161_1 hfz161_2); obtain ⟨hcz163_0, hcz163_1, hcz163_2, hcz163_3, hfz163_0, hfz163_1, hfz163_2, hfz163_3⟩ := ch4_ BK430))
 refine bodyPost_ret (results_ct rfl _ _ gb430 34 #[.int .i64 0, .int .i64 0, .int .i64 0, .slice none 0 0] (0, 0) _ rfl (bp_ BK430).out Try.underlying34 rfl (by kernel_rfl)) rfl ?_
 exact ⟨_, es_, by first | exact Kd.R_nil _ _ _ _ _ | exact Kd.N_nil _ _ _ _ _ | exact Kd.V_nil _ _ _ _ _ | exact Kd.Q_nil _ _ _ _ _ | exact Kd.S_nil _ _ _ _ _, (bw_ HB).out⟩
end Go.Proofs.Ytdfcoebadjhjlaa.QI
