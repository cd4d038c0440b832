import Derived.Test.YtdfcoebadjhjlaaQIx5
import Derived.Test.YtdfcoebadjhjlaaQIx40
import Derived.Test.YtdfcoebadjhjlaaQIx51
import Derived.Test.YtdfcoebadjhjlaaQIx53
import Derived.Ground.SlgfProg
import Derived.Shelf.SlGeneric
import Derived.Shelf.SlicesQ.IndexFunc
namespace Go.Proofs.Ytdfcoebadjhjlaa.QI
set_option maxHeartbeats 8000000
set_option maxRecDepth 100000
open Go.RowKit Go.Proofs.YtdfcoebadjhjlaaW.PrintWords Go.Proofs.YtdfcoebadjhjlaaW.PrintLast Go.Proofs.YtdfcoebadjhjlaaW.PrintMore
attribute [local go_sem] isSome_setCell max2_int min2_int max_two min_two max_three min_three max_four min_four
set_option linter.unusedVariables false
set_option linter.unusedSimpArgs false

/-! ### impl_flowOf_has: function 73 -/
def contains64_ren : Go.Shelf.Ren := ⟨fun | 8 => 64 | 6 => 91 | n => n, fun | 22 => 28 | 23 => 63 | 25 => 96 | 4 => 4 | 3 => 3 | 0 => 0 | n => n, fun | n => n⟩
theorem contains64 : Go.Proofs.SlLaysH0.n8 Try.prog contains64_ren := {
  mixed := by kernel_rfl
  f6 := ⟨Try.f91.name, by decide, Try.func91.trans (congrArg some (by kernel_rfl))⟩
  f8 := ⟨Try.f64.name, by decide, Try.func64.trans (congrArg some (by kernel_rfl))⟩
  t0 := Try.underlying0
  a0 := Try.isAgg0
  z0 := Try.sizeOf0
  v0 := Try.zeroValue0
  t3 := Try.underlying3
  a3 := Try.isAgg3
  z3 := Try.sizeOf3
  v3 := Try.zeroValue3
  t4 := Try.underlying4
  a4 := Try.isAgg4
  z4 := Try.sizeOf4
  v4 := Try.zeroValue4
  t22 := Try.underlying28
  a22 := Try.isAgg28
  z22 := Try.sizeOf28
  v22 := Try.zeroValue28
  t25 := Try.underlying96
  a25 := Try.isAgg96
  z25 := Try.sizeOf96
  v25 := Try.zeroValue96 }
theorem impl_flowOf_has.one (b0 b1 b2 : Int) (x : S63) (Bb : Nat) (w : World) (h0 : w.cell? ⟨Bb, 0, none⟩ = some (.int .i64 b0)) (h1 : w.cell? ⟨Bb, 1, none⟩ = some (.int .i64 b1)) (h2 : w.cell? ⟨Bb, 2, none⟩ = some (.int .i64 b2)) (hb : Bb < w.heap.size) :
  Calls Try.prog 73 #[.agg #[.int .i64 x.f0.f0, .int .i64 x.f0.f1, .int .i64 x.f0.f2, .int .i64 x.f1], .pointer (some ⟨Bb, 0, none⟩)] w fun e w' => e = .returned (.bool (x.f0.f0 == b0 && (x.f0.f1 == b1 && (x.f0.f2 == b2)))) ∧ Below w.heap.size w w' := by
 have hne : Bb ≠ w.heap.size := by omega
 go_enter Try.func73, Try.ntmps73
 go_wp2
 all_goals go_ret
 all_goals refine ⟨?_, (Below.refl _ w).alloc (Nat.le_refl _) _⟩
 all_goals first | rfl | simp_all
def impl_flowOf_has.enc (x : S63) : List Value := [.int .i64 x.f0.f0, .int .i64 x.f0.f1, .int .i64 x.f0.f2, .int .i64 x.f1]
def impl_flowOf_has.p (a2_0 a2_1 a2_2 : Int) (x : S63) : Bool := x.f0.f0 == a2_0 && (x.f0.f1 == a2_1 && (x.f0.f2 == a2_2))
def impl_flowOf_has.f (l0 : List (S63)) (a1_0 a1_1 a1_2 : Int) : Option (Bool) := some (l0.any (impl_flowOf_has.p a1_0 a1_1 a1_2))
theorem impl_flowOf_has.nil6 (A0 : Option Addr) (c0 : Nat) (lb : Array Value) (w : World) : Calls Try.prog 91 #[.slice A0 0 c0, .func (.func 73) #[] lb] w fun e w' => e = .returned (.int .i64 (-1)) ∧ Below w.heap.size w w' := by
 go_enter Try.func91, Try.ntmps91
 go_wp2
 go_loopg [5, 8] 0 (fun gg _ s8 wr => s8 = .int .i64 0 ∧ Below w.heap.size w wr)
 case atStart => exact ⟨rfl, Below.refl _ w⟩
 obtain ⟨rfl, BW⟩ := hrel
 go_wp2
 go_ret
 exact ⟨rfl, BW⟩
theorem impl_flowOf_has.nil0 (A0 : Option Addr) (c0 : Nat) (lb : Array Value) (w : World) : Calls Try.prog 64 #[.slice A0 0 c0, .func (.func 73) #[] lb] w fun e w' => e = .returned (.bool false) ∧ Below w.heap.size w w' := by
 have hcon := impl_flowOf_has.nil6 A0 c0 lb
 go_enter Try.func64, Try.ntmps64
 go_wp2_with (go_at_call 91; refine (hcon _).mono ?_; rintro e w' ⟨rfl, hb'⟩)
 go_ret
 exact ⟨rfl, hb'⟩
theorem impl_flowOf_has.calls (A0 : Option Addr) (c0 : Nat) (l0 : List (S63)) (a1_0 a1_1 a1_2 : Int) (r : Bool) (w : World) (Bb : Nat) (hB : w.heap[Bb]? = some (.cells #[.int .i64 a1_0, .int .i64 a1_1, .int .i64 a1_2] 31 (0, 0))) (hr0 : Kd.C k63 w A0 l0.length l0) (hc0 : l0.length ≤ c0) (h : impl_flowOf_has.f l0 a1_0 a1_1 a1_2 = some r) :
  Calls Try.prog 64 #[.slice A0 l0.length c0, .func (.func 73) #[] #[.pointer (some ⟨Bb, 0, none⟩)]] w fun e w' => e = .returned (.bool r) ∧ Below w.heap.size w w' := by
 obtain rfl : l0.any (impl_flowOf_has.p a1_0 a1_1 a1_2) = r := Option.some.inj h
 clear h
 rcases Nat.eq_zero_or_pos l0.length with hz | hl0
 ·obtain rfl := List.eq_nil_of_length_eq_zero hz
  exact impl_flowOf_has.nil0 A0 c0 _ w
 have hbl : Bb < w.heap.size := (Array.getElem?_eq_some_iff.1 hB).1
 have hc : ∀ i v, (#[.int .i64 a1_0, .int .i64 a1_1, .int .i64 a1_2] : Array Value)[i]? = some v → w.cell? ⟨Bb, i, none⟩ = some v := fun i v h => by
  unfold World.cell?
  rw [hB]
  exact h
 obtain ⟨ad, ca, rfl, hca, hKa, hcc⟩ := Kd.C_get hr0 z63 0 (by omega) (by omega)
 obtain ⟨b, off, sp⟩ := ad
 have hsp : sp = none := by
  cases sp with
  | none => rfl
  | some s_ =>
   obtain rfl := k63_open hKa
   have h1 := hcc 0 _ rfl
   simp only [Int.toNat_zero, Nat.zero_mul, Nat.zero_add, Nat.add_zero, Addr.add, if_true] at h1
   unfold World.cell? at h1
   split at h1 <;> simp at h1
 subst hsp
 clear hcc hKa hca
 have hadd : ∀ j, (⟨b, off, none⟩ : Addr).add j = ⟨b, off + j, none⟩ := fun j => by unfold Addr.add; split <;> simp_all
 have hcells : ∀ (j : Nat), j < l0.length → ∀ i v, (impl_flowOf_has.enc (l0.getD j z63))[i]? = some v → w.cell? ⟨b, off + (j * 4 + i), none⟩ = some v := by
  intro j hj i v hi
  obtain ⟨ad', cj, he, hcj, hKj, hccj⟩ := Kd.C_get hr0 z63 (j : Int) (by omega) (by omega)
  injection he with he
  subst he
  obtain rfl := k63_open hKj
  rw [← hadd]
  exact hccj i v hi
 have hbw : b < w.heap.size := by
  have h1 := hcells 0 hl0 0 _ rfl
  unfold World.cell? at h1
  split at h1
  ·rename_i h2; exact (Array.getElem?_eq_some_iff.1 h2).1
  simp at h1
 haveI : Inhabited (S63) := ⟨z63⟩
 have hget : ∀ j, j < l0.length → l0[j]! = l0.getD j z63 := fun j hj => by
  rw [getElem!_pos l0 j hj, List.getD_eq_getElem?_getD, List.getElem?_eq_getElem hj]; rfl
 have hany : (l0.take l0.length).any (impl_flowOf_has.p a1_0 a1_1 a1_2) = l0.any (impl_flowOf_has.p a1_0 a1_1 a1_2) := by rw [List.take_length]
 rw [← hany]
 refine AnyQ.slices_ContainsFunc (P := Try.prog) contains64 4 Try.isAgg63 Try.sizeOf63 impl_flowOf_has.enc (fun _ => rfl) (impl_flowOf_has.p a1_0 a1_1 a1_2) 73 #[.pointer (some ⟨Bb, 0, none⟩)] (enters_of Try.func73 (by kernel_rfl) rfl) b off l0.length c0 l0 w
  (fun W x hW => ?_) (Nat.le_refl _) (by have := hr0.2.1; omega) hbw (fun j hj i v hi => ?_)
 ·have cell : ∀ (i : Nat) (v : Value), w.cell? ⟨Bb, i, none⟩ = some v → W.cell? ⟨Bb, i, none⟩ = some v := fun i v h => (hW.cell (p := ⟨Bb, i, none⟩) hbl).trans h
  have e : ∀ y : Value, (#[y] ++ #[.pointer (some ⟨Bb, 0, none⟩)] : Array Value) = #[y, .pointer (some ⟨Bb, 0, none⟩)] := fun _ => by simp
  have h := impl_flowOf_has.one a1_0 a1_1 a1_2 x Bb W (cell _ _ (hc 0 _ rfl)) (cell _ _ (hc 1 _ rfl)) (cell _ _ (hc 2 _ rfl)) (by have := hW.size; omega)
  rw [← e] at h
  refine h.mono ?_
  rintro e w' ⟨rfl, hb'⟩
  exact ⟨rfl, hW.trans (hb'.mono hW.size)⟩
 have h1 := hcells j hj i v (by rw [← hget j hj]; exact hi)
 rw [Nat.add_assoc]
 exact h1

/-! ### impl_flowOf: function 34 -/
mutual
def impl_flowOf.l0 : Nat → Int → List (S63) → Bool → Int → Int → Int → Int → List (S72) → Option ((List (S63)) × Bool)
 | 0, _, _, _, _, _, _, _, _ => none
 | k + 1, x0, x6, x7, x8, x400000, x400001, x400002, x400003 => if x8 ≤ 6 then (impl_flowOf.l1 k x0 x6 x7 x8 x400003 (x400003.length : Int) 0 x400000 x400001 x400002 x400003) else (some (x6, x7))
def impl_flowOf.l1 : Nat → Int → List (S63) → Bool → Int → List (S72) → Int → Int → Int → Int → Int → List (S72) → Option ((List (S63)) × Bool)
 | 0, _, _, _, _, _, _, _, _, _, _, _ => none
 | k + 1, x0, x6, x7, x8, x24, x25, x26, x400000, x400001, x400002, x400003 => if x26 < x25 then (if 0 ≤ x26 then (if x26 < (x24.length : Int) then (if ((rd_T72 x24 x26).f0.f0) < x8 then (impl_flowOf.l1 k x0 x6 x7 x8 x24 x25 (wrap64 (x26 + 1)) x400000 x400001 x400002 x400003) else ((impl_above.f k x0 ((rd_T72 x24 x26).f0.f0) ((rd_T72 x24 x26).f0.f1) ((rd_T72 x24 x26).f0.f2) x8).bind fun bt405 => ((impl_flowOf_has.f x6 bt405.1 bt405.2.1 bt405.2.2).bind fun t409 => (if t409 = true then (impl_flowOf.l1 k x0 x6 x7 x8 x24 x25 (wrap64 (x26 + 1)) x400000 x400001 x400002 x400003) else ((impl_total.f k x0 x400000 x400001 x400002 x400003 bt405.1 bt405.2.1 bt405.2.2).bind fun bt410 => (if x7 = true then ((impl_isWeight.f k (([bt410.1] : List Int))).bind fun t415 => (if x6.length < 4398046511104 then (impl_flowOf.l1 k x0 (x6 ++ [(⟨(⟨bt405.1, bt405.2.1, bt405.2.2⟩ : S31), bt410.1⟩ : S63)]) t415 x8 x24 x25 (wrap64 (x26 + 1)) x400000 x400001 x400002 x400003) else (none))) else (if x6.length < 4398046511104 then (impl_flowOf.l1 k x0 (x6 ++ [(⟨(⟨bt405.1, bt405.2.1, bt405.2.2⟩ : S31), bt410.1⟩ : S63)]) false x8 x24 x25 (wrap64 (x26 + 1)) x400000 x400001 x400002 x400003) else (none)))))))) else (none)) else (none)) else (impl_flowOf.l0 k x0 x6 x7 (wrap64 (x8 + 1)) x400000 x400001 x400002 x400003)
end
def impl_flowOf.f (k : Nat) (a0 a1_0 a1_1 a1_2 : Int) (l1_3 : List (S72)) : Option ((List (S63)) × Bool) := impl_flowOf.l0 k a0 (([] : List (S63))) true (wrap64 (a1_0 + 1)) a1_0 a1_1 a1_2 l1_3
theorem impl_flowOf.calls (k : Nat) (a0 a1_0 a1_1 a1_2 : Int) (A1_3 : Option Addr) (c1_3 : Nat) (l1_3 : List (S72)) (r1 : List (S63)) (r2 : Bool) (w : World) (hr1_3 : Kd.C k72 w A1_3 l1_3.length l1_3) (hc1_3 : l1_3.length ≤ c1_3) (h : impl_flowOf.f k a0 a1_0 a1_1 a1_2 l1_3 = some (r1, r2)) :
  Calls Try.prog 34 #[.int .i64 a0, .agg #[.int .i64 a1_0, .int .i64 a1_1, .int .i64 a1_2, .slice A1_3 l1_3.length c1_3]] w fun e w' => ∃ v0_ : Value, e = .returned (.tuple #[v0_, .bool r2]) ∧ Kd.R k63 63 w' w.heap.size (fun _ => True) v0_ r1 ∧ Below w.heap.size w w' := by
 have hu34 := Try.underlying34
 have hu31 := Try.underlying31
 have hu72 := Try.underlying72
 have hu63 := Try.underlying63
 have HR1_3 := Aside0.mk hr1_3
 have HC1_3 := Aside0.mk hc1_3
 clear hr1_3 hc1_3
 have HB := Aside0.mk (Below.refl w.heap.size w)
 unfold impl_flowOf.f at h
 have H := h
 clear h
 obtain ⟨y400, hy400⟩ : ∃ y_ : List (S63), y_ = (([] : List (S63))) := ⟨_, rfl⟩
 replace H : (impl_flowOf.l0 k a0 y400 true (wrap64 (a1_0 + 1)) a1_0 a1_1 a1_2 l1_3) = some (r1, r2) := by first | (rw [hy400]; with_reducible exact H) | (have H2_ := (Option.bind_some _ _).symm.trans H; rw [hy400]; with_reducible exact H2_) | (have H2_ := (Option.bind_some _ _).symm.trans H; with_reducible exact H2_) | with_reducible exact H | (rw [hy400]; exact H) | exact H
 have Ny400 := Aside0.mk hy400
 clear hy400
 have H' := Aside0.mk H
 clear H
 go_enter Try.func34, Try.ntmps34
 go_wp2_with (first | ((refine gd_ 3 ?_); (try (refine gate_guard (by rfl) ?_; dsimp only)); refine by_ 3 #[.int .i64 a1_0, .int .i64 a1_1, .int .i64 a1_2, .slice A1_3 l1_3.length c1_3] 34 HB ?_; intro gb399 hg w3 BK399 hb GW399 HB_; replace HB := HB_; clear hb hg) | ((refine gd_ 14 ?_); (try (refine gate_guard (by rfl) ?_; dsimp only)); refine Kd.R_lit k63 _ 63 ?hg (N := 14) ?hd (xs := ([] : List (S63))) (inner := []) (ok := fun _ => True) (okp := fun _ => True) ?hr ?hp (fun _ hk => hk) trivial (Below.refl _ _) (Nat.le_refl _) (by simp) ?_; (case hd => rfl); (case hg => rfl); (case hr => first | (go_simp; done) | (go_simp; rfl)); (case hp => exact (Reps.none _ _)); intro v401 w4 ho5 hb hg_ hnew_; clear hg_ hnew_; (first | rw [← Ny400.out] at ho5 | (simp only [Int.reduceToNat] at ho5; rw [← Ny400.out] at ho5)); have HO402 := Aside0.mk (Kd.R_lower ho5 (below_size (bw_ HB).out)); replace BK399 := bb_ BK399 hb; replace HB := bt_ HB hb; clear hb ho5; obtain ⟨hcz6_0, hcz6_1, hcz6_2, hcz6_3, hfz6_0, hfz6_1, hfz6_2, hfz6_3⟩ := ch4_ BK399))
 go_loopg [6, 7, 8] k (fun kq v6 v7 v8 w' => ∃ (x6_1 : List (S63)) (x7_1 : Bool) (x8_1 : Int), v7 = .bool x7_1 ∧ v8 = .int .i64 x8_1 ∧ Aside0 (impl_flowOf.l0 kq a0 x6_1 x7_1 x8_1 a1_0 a1_1 a1_2 l1_3 = some (r1, r2)) ∧ Aside0 (kq ≤ k) ∧ Aside0 (Kd.R k63 63 w' w.heap.size (fun _ => True) v6 x6_1) ∧ Aside0 (w'.heap[gb399]? = some (.cells #[.int .i64 a1_0, .int .i64 a1_1, .int .i64 a1_2, (.slice A1_3 l1_3.length c1_3)] 34 (0, 0))) ∧ Aside0 (Below w.heap.size w w'))
 case atStart => exact ⟨(y400), (true), (wrap64 (a1_0 + 1)), en_, en_, H', ⟨Nat.le_refl _⟩, ⟨by (with_reducible repeat (first | apply Kd.R_alloc | apply Kd.R_drewN | apply Kd.R_drew)); exact HO402.out⟩, bl_ BK399, bw_ HB⟩
 clear H'
 try clear hcz6_0 hcz6_1 hcz6_2 hcz6_3
 try clear hfz6_0 hfz6_1 hfz6_2 hfz6_3
 obtain ⟨x6_1, x7_1, x8_1, rfl, rfl, HA, HK1, HO_6, BK399, HB⟩ := hrel
 cases gk with
 | zero => exact absurd HA.out (by simp [impl_flowOf.l0])
 | succ k1 =>
  have H := HA.out
  clear HA
  simp only [impl_flowOf.l0] at H
  replace H := im_ H
  rcases H with ⟨c7b0, H⟩ | ⟨c7b0, H⟩
  ·have H' := Aside0.mk H
   clear H
   obtain ⟨hcz8_0, hcz8_1, hcz8_2, hcz8_3, hfz8_0, hfz8_1, hfz8_2, hfz8_3⟩ := ch4_ BK399
   go_wp2
   go_loopg [6, 7, 26] k1 (fun kq v6 v7 v26 w' => ∃ (x6_2 : List (S63)) (x7_2 : Bool) (x26_2 : Int), v7 = .bool x7_2 ∧ v26 = .int .i64 x26_2 ∧ Aside0 (impl_flowOf.l1 kq a0 x6_2 x7_2 x8_1 l1_3 (l1_3.length : Int) x26_2 a1_0 a1_1 a1_2 l1_3 = some (r1, r2)) ∧ Aside0 (kq ≤ k1) ∧ Aside0 (Kd.R k63 63 w' w.heap.size (fun _ => True) v6 x6_2) ∧ Aside0 (w'.heap[gb399]? = some (.cells #[.int .i64 a1_0, .int .i64 a1_1, .int .i64 a1_2, (.slice A1_3 l1_3.length c1_3)] 34 (0, 0))) ∧ Aside0 (Below w.heap.size w w'))
   case atStart => exact ⟨(x6_1), (x7_1), (0), en_, en_, H', ⟨Nat.le_refl _⟩, ⟨by (with_reducible repeat (first | apply Kd.R_alloc | apply Kd.R_drewN | apply Kd.R_drew)); exact HO_6.out⟩, bl_ BK399, bw_ HB⟩
   clear H'
   try clear c7b0
   try clear hcz6_0 hcz6_1 hcz6_2 hcz6_3
   try clear hcz8_0 hcz8_1 hcz8_2 hcz8_3
   try clear hfz6_0 hfz6_1 hfz6_2 hfz6_3
   try clear hfz8_0 hfz8_1 hfz8_2 hfz8_3
   obtain ⟨x6_2, x7_2, x26_2, rfl, rfl, HA, HK2, HO_6, BK399, HB⟩ := hrel
   cases gk with
   | zero => exact absurd HA.out (by simp [impl_flowOf.l1])
   | succ k2 =>
    have H := HA.out
    clear HA
    simp only [impl_flowOf.l1] at H
    replace H := il_ H
    rcases H with ⟨c9b0, H⟩ | ⟨c9b0, H⟩
    ·replace H := imn_ H
     obtain ⟨c10b0, H⟩ := H
     replace H := iln_ H
     obtain ⟨c11b0, H⟩ := H
     replace H := il_ H
     rcases H with ⟨c12b0, H⟩ | ⟨c12b0, H⟩
     ·have H' := Aside0.mk H
      clear H
      have p403 : 0 ≤ (x26_2 : Int) := od_
      have q403 : x26_2 < (l1_3.length : Int) := od_
      obtain ⟨ad403, e403, hx403_0, hx403_1, hx403_2, hx403_3⟩ := at_T72 HR1_3.out x26_2 p403 q403
      cases e403
      replace hx403_0 := clTr HB.out hx403_0
      replace hx403_1 := clTr HB.out hx403_1
      replace hx403_2 := clTr HB.out hx403_2
      replace hx403_3 := clTr HB.out hx403_3
      replace p403 := eq_true p403
      replace q403 := eq_true q403
      go_wp2_with (first | ((refine gd_ 10 ?_); (try (refine gate_guard (by rfl) ?_; dsimp only)); refine bx_ 10 #[.int .i64 0, .int .i64 0, .int .i64 0, .int .i64 0] 72 ?_; intro gb404 hg w13 BK404 hb; have GW404 := bs_ HB hg; have NB399_404 := bm_ BK399 hg; have NB404_399 := bn_ BK399 hg; replace HO_6 := rb_ HO_6 hb; replace BK399 := bb_ BK399 hb; replace HB := bt_ HB hb; clear hb hg; have hnb14 := NB404_399.out; have hnc14 := NB399_404.out; obtain ⟨hcz15_0, hcz15_1, hcz15_2, hcz15_3, hfz15_0, hfz15_1, hfz15_2, hfz15_3⟩ := ch4_ BK404))
      go_roundg k2
      case measure => have := HK1.out; have := HK2.out; omega
      case rel => exact ⟨(x6_2), (x7_2), (wrap64 (x26_2 + 1)), en_, en_, H', ⟨by have := HK1.out; have := HK2.out; omega⟩, ⟨by (with_reducible repeat (first | apply Kd.R_alloc | apply Kd.R_drewN | apply Kd.R_drew)); exact Kd.R_mono (Kd.R_far (p := ⟨gb404, 3, none⟩) (Kd.R_far (p := ⟨gb404, 2, none⟩) (Kd.R_far (p := ⟨gb404, 1, none⟩) (Kd.R_far (p := ⟨gb404, 0, none⟩) (Kd.R_types HO_6.out BK404.out (by decide)) (fun _ hk => hk.2) (.int .i64 ((rd_T72 l1_3 x26_2).f0.f0))) (fun _ hk => hk.2) (.int .i64 ((rd_T72 l1_3 x26_2).f0.f1))) (fun _ hk => hk.2) (.int .i64 ((rd_T72 l1_3 x26_2).f0.f2))) (fun _ hk => hk.2) (.int .i64 ((rd_T72 l1_3 x26_2).f1))) (fun _ hk => trivial)⟩, fl_ BK399 NB399_404, bw_ HB⟩
     replace H := oc_ H
     obtain ⟨⟨t405, t406, t407⟩, A16, H⟩ := H
     replace H := oc_ H
     obtain ⟨t409, A17, H⟩ := H
     replace H := ib_ H
     rcases H with ⟨rfl, H⟩ | ⟨rfl, H⟩
     ·have H' := Aside0.mk H
      clear H
      have p403 : 0 ≤ (x26_2 : Int) := od_
      have q403 : x26_2 < (l1_3.length : Int) := od_
      obtain ⟨ad403, e403, hx403_0, hx403_1, hx403_2, hx403_3⟩ := at_T72 HR1_3.out x26_2 p403 q403
      cases e403
      replace hx403_0 := clTr HB.out hx403_0
      replace hx403_1 := clTr HB.out hx403_1
      replace hx403_2 := clTr HB.out hx403_2
      replace hx403_3 := clTr HB.out hx403_3
      replace p403 := eq_true p403
      replace q403 := eq_true q403
      go_wp2_with (first | ((refine gd_ 10 ?_); (try (refine gate_guard (by rfl) ?_; dsimp only)); refine bx_ 10 #[.int .i64 0, .int .i64 0, .int .i64 0, .int .i64 0] 72 ?_; intro gb404 hg w19 BK404 hb; have GW404 := bs_ HB hg; have NB399_404 := bm_ BK399 hg; have NB404_399 := bn_ BK399 hg; replace HO_6 := rb_ HO_6 hb; replace BK399 := bb_ BK399 hb; replace HB := bt_ HB hb; clear hb hg; have hnb20 := NB404_399.out; have hnc20 := NB399_404.out; obtain ⟨hcz21_0, hcz21_1, hcz21_2, hcz21_3, hfz21_0, hfz21_1, hfz21_2, hfz21_3⟩ := ch4_ BK404) | ((refine gc_ 72 ?_); refine ge_ 39 Try.func72 #[.int .i64 a0, .agg #[.int .i64 ((rd_T72 l1_3 x26_2).f0.f0), .int .i64 ((rd_T72 l1_3 x26_2).f0.f1), .int .i64 ((rd_T72 l1_3 x26_2).f0.f2)], .int .i64 x8_1] ?_; (with_reducible refine (impl_above.calls k2 a0 ((rd_T72 l1_3 x26_2).f0.f0) ((rd_T72 l1_3 x26_2).f0.f1) ((rd_T72 l1_3 x26_2).f0.f2) x8_1 t405 t406 t407 _ A16.out).mono ?_); rintro e w22 ⟨rfl, hb⟩; refine ⟨_, rfl, ?_⟩; replace HO_6 := Aside0.mk (Kd.R_below (ra_ (rs4_ HO_6.out BK404.out)) hb); replace BK399 := fb_ BK399 NB399_404 hb; replace BK404 := Aside0.mk (blk_below (g := gb404) (o := .cells #[.int .i64 ((rd_T72 l1_3 x26_2).f0.f0), .int .i64 ((rd_T72 l1_3 x26_2).f0.f1), .int .i64 ((rd_T72 l1_3 x26_2).f0.f2), .int .i64 ((rd_T72 l1_3 x26_2).f1)] 72 (0, 0)) (bp_ BK404).out hb); replace HB := bt_ HB hb; (try clear hb)) | ((refine gd_ 11 ?_); (try (refine gate_guard (by rfl) ?_; dsimp only)); refine bx_ 11 #[.int .i64 0, .int .i64 0, .int .i64 0] 31 ?_; intro gb408 hg w23 BK408 hb; have GW408 := bs_ HB hg; have NB399_408 := bm_ BK399 hg; have NB408_399 := bn_ BK399 hg; have NB404_408 := bm_ BK404 hg; have NB408_404 := bn_ BK404 hg; replace HO_6 := rb_ HO_6 hb; replace BK399 := bb_ BK399 hb; replace BK404 := bb_ BK404 hb; replace HB := bt_ HB hb; clear hb hg; have hnb24 := NB408_399.out; have hnc24 := NB399_408.out; have hnb25 := NB408_404.out; have hnc25 := NB404_408.out; obtain ⟨hcz26_0, hcz26_1, hcz26_2, hfz26_0, hfz26_1, hfz26_2⟩ := ch3_ BK408; obtain ⟨Ao27, co27, eo27⟩ := Kd.R_slice HO_6.out; subst eo27) | ((refine gc_ 64 ?_); refine ge_ 42 Try.func64 #[.slice Ao27 x6_2.length co27, .func (.func 73) #[] #[.pointer (some ⟨gb408, 0, none⟩)]] ?_; (with_reducible refine (impl_flowOf_has.calls _ _ x6_2 t405 t406 t407 true _ gb408 ?sb0 ?side1 ?side2 A17.out).mono ?_); (case sb0 => exact (bp_ BK408).out); (case side1 => refine (Kd.R_reads' (e := 63) (base := w.heap.size) (ok := fun k_ => True) (n := x6_2.length) (c := co27) ?_).2.2; exact (ra_ (rs3_ HO_6.out BK408.out))); (case side2 => exact (Kd.R_reads' HO_6.out).2.1); rintro e w28 ⟨rfl, hb⟩; refine ⟨_, rfl, ?_⟩; replace HO_6 := Aside0.mk (Kd.R_below (ra_ (rs3_ HO_6.out BK408.out)) hb); replace BK399 := fb_ BK399 NB399_408 hb; replace BK404 := fb_ BK404 NB404_408 hb; replace BK408 := Aside0.mk (blk_below (g := gb408) (o := .cells #[.int .i64 t405, .int .i64 t406, .int .i64 t407] 31 (0, 0)) (bp_ BK408).out hb); replace HB := bt_ HB hb; (try clear hb)))
      go_roundg k2
      case measure => have := HK1.out; have := HK2.out; omega
      case rel => exact ⟨(x6_2), (x7_2), (wrap64 (x26_2 + 1)), en_, en_, H', ⟨by have := HK1.out; have := HK2.out; omega⟩, ⟨by (with_reducible repeat (first | apply Kd.R_alloc | apply Kd.R_drewN | apply Kd.R_drew)); exact HO_6.out⟩, bl_ BK399, bw_ HB⟩
     replace H := oc_ H
     obtain ⟨⟨t410, t411⟩, A29, H⟩ := H
     replace H := ib_ H
     rcases H with ⟨rfl, H⟩ | ⟨rfl, H⟩
     ·obtain ⟨y412, hy412⟩ : ∃ y_ : List Int, y_ = (([t410] : List Int)) := ⟨_, rfl⟩
      replace H : ((impl_isWeight.f k2 y412).bind fun t415 => (if x6_2.length < 4398046511104 then (impl_flowOf.l1 k2 a0 (x6_2 ++ [(⟨(⟨t405, t406, t407⟩ : S31), t410⟩ : S63)]) t415 x8_1 l1_3 (l1_3.length : Int) (wrap64 (x26_2 + 1)) a1_0 a1_1 a1_2 l1_3) else (none))) = some (r1, r2) := by first | (rw [hy412]; with_reducible exact H) | (have H2_ := (Option.bind_some _ _).symm.trans H; rw [hy412]; with_reducible exact H2_) | (have H2_ := (Option.bind_some _ _).symm.trans H; with_reducible exact H2_) | with_reducible exact H | (rw [hy412]; exact H) | exact H
      have Ny412 := Aside0.mk hy412
      clear hy412
      replace H := oc_ H
      obtain ⟨t415, A31, H⟩ := H
      by_cases c32 : x6_2.length < 4398046511104
      ·rw [if_pos c32] at H
       have LMc32 := Aside0.mk c32
       clear c32
       obtain ⟨y416, hy416⟩ : ∃ y_ : List (S63), y_ = (x6_2 ++ [(⟨(⟨t405, t406, t407⟩ : S31), t410⟩ : S63)]) := ⟨_, rfl⟩
       replace H : (impl_flowOf.l1 k2 a0 y416 t415 x8_1 l1_3 (l1_3.length : Int) (wrap64 (x26_2 + 1)) a1_0 a1_1 a1_2 l1_3) = some (r1, r2) := by first | (rw [hy416]; with_reducible exact H) | (have H2_ := (Option.bind_some _ _).symm.trans H; rw [hy416]; with_reducible exact H2_) | (have H2_ := (Option.bind_some _ _).symm.trans H; with_reducible exact H2_) | with_reducible exact H | (rw [hy416]; exact H) | exact H
       have Ny416 := Aside0.mk hy416
       clear hy416
       have H' := Aside0.mk H
       clear H
       have p403 : 0 ≤ (x26_2 : Int) := od_
       have q403 : x26_2 < (l1_3.length : Int) := od_
       obtain ⟨ad403, e403, hx403_0, hx403_1, hx403_2, hx403_3⟩ := at_T72 HR1_3.out x26_2 p403 q403
       cases e403
       replace hx403_0 := clTr HB.out hx403_0
       replace hx403_1 := clTr HB.out hx403_1
       replace hx403_2 := clTr HB.out hx403_2
       replace hx403_3 := clTr HB.out hx403_3
       replace p403 := eq_true p403
       replace q403 := eq_true q403
       go_wp2_with (first | ((refine gd_ 10 ?_); (try (refine gate_guard (by rfl) ?_; dsimp only)); refine bx_ 10 #[.int .i64 0, .int .i64 0, .int .i64 0, .int .i64 0] 72 ?_; intro gb404 hg w33 BK404 hb; have GW404 := bs_ HB hg; have NB399_404 := bm_ BK399 hg; have NB404_399 := bn_ BK399 hg; replace HO_6 := rb_ HO_6 hb; replace BK399 := bb_ BK399 hb; replace HB := bt_ HB hb; clear hb hg; have hnb34 := NB404_399.out; have hnc34 := NB399_404.out; obtain ⟨hcz35_0, hcz35_1, hcz35_2, hcz35_3, hfz35_0, hfz35_1, hfz35_2, hfz35_3⟩ := ch4_ BK404) | ((refine gc_ 72 ?_); refine ge_ 39 Try.func72 #[.int .i64 a0, .agg #[.int .i64 ((rd_T72 l1_3 x26_2).f0.f0), .int .i64 ((rd_T72 l1_3 x26_2).f0.f1), .int .i64 ((rd_T72 l1_3 x26_2).f0.f2)], .int .i64 x8_1] ?_; (with_reducible refine (impl_above.calls k2 a0 ((rd_T72 l1_3 x26_2).f0.f0) ((rd_T72 l1_3 x26_2).f0.f1) ((rd_T72 l1_3 x26_2).f0.f2) x8_1 t405 t406 t407 _ A16.out).mono ?_); rintro e w36 ⟨rfl, hb⟩; refine ⟨_, rfl, ?_⟩; replace HO_6 := Aside0.mk (Kd.R_below (ra_ (rs4_ HO_6.out BK404.out)) hb); replace BK399 := fb_ BK399 NB399_404 hb; replace BK404 := Aside0.mk (blk_below (g := gb404) (o := .cells #[.int .i64 ((rd_T72 l1_3 x26_2).f0.f0), .int .i64 ((rd_T72 l1_3 x26_2).f0.f1), .int .i64 ((rd_T72 l1_3 x26_2).f0.f2), .int .i64 ((rd_T72 l1_3 x26_2).f1)] 72 (0, 0)) (bp_ BK404).out hb); replace HB := bt_ HB hb; (try clear hb)) | ((refine gd_ 11 ?_); (try (refine gate_guard (by rfl) ?_; dsimp only)); refine bx_ 11 #[.int .i64 0, .int .i64 0, .int .i64 0] 31 ?_; intro gb408 hg w37 BK408 hb; have GW408 := bs_ HB hg; have NB399_408 := bm_ BK399 hg; have NB408_399 := bn_ BK399 hg; have NB404_408 := bm_ BK404 hg; have NB408_404 := bn_ BK404 hg; replace HO_6 := rb_ HO_6 hb; replace BK399 := bb_ BK399 hb; replace BK404 := bb_ BK404 hb; replace HB := bt_ HB hb; clear hb hg; have hnb38 := NB408_399.out; have hnc38 := NB399_408.out; have hnb39 := NB408_404.out; have hnc39 := NB404_408.out; obtain ⟨hcz40_0, hcz40_1, hcz40_2, hfz40_0, hfz40_1, hfz40_2⟩ := ch3_ BK408; obtain ⟨Ao41, co41, eo41⟩ := Kd.R_slice HO_6.out; subst eo41) | ((refine gc_ 64 ?_); refine ge_ 42 Try.func64 #[.slice Ao41 x6_2.length co41, .func (.func 73) #[] #[.pointer (some ⟨gb408, 0, none⟩)]] ?_; (with_reducible refine (impl_flowOf_has.calls _ _ x6_2 t405 t406 t407 false _ gb408 ?sb0 ?side1 ?side2 A17.out).mono ?_); (case sb0 => exact (bp_ BK408).out); (case side1 => refine (Kd.R_reads' (e := 63) (base := w.heap.size) (ok := fun k_ => True) (n := x6_2.length) (c := co41) ?_).2.2; exact (ra_ (rs3_ HO_6.out BK408.out))); (case side2 => exact (Kd.R_reads' HO_6.out).2.1); rintro e w42 ⟨rfl, hb⟩; refine ⟨_, rfl, ?_⟩; replace HO_6 := Aside0.mk (Kd.R_below (ra_ (rs3_ HO_6.out BK408.out)) hb); replace BK399 := fb_ BK399 NB399_408 hb; replace BK404 := fb_ BK404 NB404_408 hb; replace BK408 := Aside0.mk (blk_below (g := gb408) (o := .cells #[.int .i64 t405, .int .i64 t406, .int .i64 t407] 31 (0, 0)) (bp_ BK408).out hb); replace HB := bt_ HB hb; (try clear hb); obtain ⟨hcz43_0, hcz43_1, hcz43_2, hcz43_3, hfz43_0, hfz43_1, hfz43_2, hfz43_3⟩ := ch4_ BK399; obtain ⟨hcz44_0, hcz44_1, hcz44_2, hfz44_0, hfz44_1, hfz44_2⟩ := ch3_ BK408) | ((refine gc_ 47 ?_); refine ge_ 47 Try.func47 #[.int .i64 a0, .agg #[.int .i64 a1_0, .int .i64 a1_1, .int .i64 a1_2, .slice (some ad403) l1_3.length c1_3], .agg #[.int .i64 t405, .int .i64 t406, .int .i64 t407]] ?_; (with_reducible refine (impl_total.calls k2 a0 a1_0 a1_1 a1_2 _ _ l1_3 t405 t406 t407 t410 t411 _ ?side1 ?side2 A29.out).mono ?_); (case side1 => exact ca_ (Kd.C_below HR1_3.out HB.out)); (case side2 => exact HC1_3.out); rintro e w45 ⟨rfl, hb⟩; refine ⟨_, rfl, ?_⟩; replace HO_6 := rb_ HO_6 hb; replace BK399 := bb_ BK399 hb; replace BK404 := bb_ BK404 hb; replace BK408 := bb_ BK408 hb; replace HB := bt_ HB hb; (try clear hb)) | ((refine gd_ 53 ?_); (try (refine gate_guard (by rfl) ?_; dsimp only)); refine Kd.R_lit (Kd.int .i64) _ 2 ?hg (N := 53) ?hd (xs := ([t410] : List Int)) (inner := [.int .i64 t410]) (ok := fun _ => True) (okp := fun _ => True) ?hr ?hp (fun _ hk => hk) trivial (Below.refl _ _) (Nat.le_refl _) (by simp) ?_; (case hd => rfl); (case hg => rfl); (case hr => first | (go_simp; done) | (go_simp; rfl)); (case hp => exact (Reps.one (show Kd.M (Kd.int .i64) _ _ _ t410 [.int .i64 t410] from rfl) (Reps.none _ _))); intro v413 w46 ho47 hb hg_ hnew_; clear hg_ hnew_; (first | rw [← Ny412.out] at ho47 | (simp only [Int.reduceToNat] at ho47; rw [← Ny412.out] at ho47)); have HO414 := Aside0.mk (Kd.R_lower ho47 (below_size (bw_ HB).out)); replace HO_6 := rb_ HO_6 hb; replace BK399 := bb_ BK399 hb; replace BK404 := bb_ BK404 hb; replace BK408 := bb_ BK408 hb; replace HB := bt_ HB hb; clear hb ho47; obtain ⟨Ao48, co48, eo48⟩ := Kd.R_slice HO414.out; subst eo48) | (go_at_call 56; (with_reducible refine (impl_isWeight.calls k2 _ _ y412 t415 _ ?side1 ?side2 A31.out).mono ?_); (case side1 => exact ca_ (Kd.R_reads' HO414.out).2.2); (case side2 => exact (Kd.R_reads' HO414.out).2.1); rintro e w' ⟨rfl, ⟨nd, rfl⟩⟩; obtain ⟨hcz49_0, hcz49_1, hcz49_2, hfz49_0, hfz49_1, hfz49_2⟩ := ch3_ BK408) | ((with_reducible refine gate_builtin (b := .append) (xs := #[.tmp 56, .tmp 60]) rfl ?_); (try (refine gate_guard (by rfl) ?_; dsimp only)); at_builtin; refine Kd.R_append k63 (w0 := w) w.heap.size rfl (.tmp 56) (.tmp 60) 28 63 (.agg #[(.int .i64 0), (.int .i64 0), (.int .i64 0), (.int .i64 0)]) 32 rfl Try.underlying28 info63 rfl (by decide) (by omega) (.slice Ao41 x6_2.length co41) x6_2 (⟨(⟨t405, t406, t407⟩ : S31), t410⟩ : S63) [.int .i64 t405, .int .i64 t406, .int .i64 t407, .int .i64 t410] (fun _ => True) (fun _ => False) rfl rfl ?aP (fun _ hk => hk.elim) ?aF ?aO ?aB ?aS ?aL ?_; (case aP => exact k63_mkM _ _ _ (⟨(⟨t405, t406, t407⟩ : S31), t410⟩ : S63)); (case aB => exact (bw_ HB).out); (case aF => exact (fun _ _ => trivial)); (case aO => exact (ra_ HO_6.out)); (case aS => exact (below_size (bw_ HB).out)); (case aL => have := LMc32.out; omega); intro v417 w50 ho hb hg hat; rw [← Ny416.out] at ho; have n0_ := Aside0.mk (blk_grown (g := gb399) (o := .cells #[.int .i64 a1_0, .int .i64 a1_1, .int .i64 a1_2, .slice (some ad403) l1_3.length c1_3] 34 (0, 0)) (bl_ BK399).out hg (Kd.R_ne HO_6.out BK399.out (by decide))); have n1_ := Aside0.mk (blk_grown (g := gb404) (o := .cells #[.int .i64 ((rd_T72 l1_3 x26_2).f0.f0), .int .i64 ((rd_T72 l1_3 x26_2).f0.f1), .int .i64 ((rd_T72 l1_3 x26_2).f0.f2), .int .i64 ((rd_T72 l1_3 x26_2).f1)] 72 (0, 0)) (bl_ BK404).out hg (Kd.R_ne HO_6.out BK404.out (by decide))); have n2_ := Aside0.mk (blk_grown (g := gb408) (o := .cells #[.int .i64 t405, .int .i64 t406, .int .i64 t407] 31 (0, 0)) (bl_ BK408).out hg (Kd.R_ne HO_6.out BK408.out (by decide))); have n3_ := Aside0.mk (Kd.R_over' (ra_ HO414.out) (Kd.R_typed (ra_ HO_6.out)) (by decide) hg); have n4_ := Aside0.mk (hb); have n5_ := Aside0.mk (ho); clear BK399; clear BK404; clear BK408; clear HO414; clear HB; clear HO_6; have BK399 := n0_; have BK404 := n1_; have BK408 := n2_; have HO414 := n3_; have HB := n4_; have HO418 := n5_; clear n0_ n1_ n2_ n3_ n4_ n5_; clear ho hb hg hat))
       go_roundg k2
       case measure => have := HK1.out; have := HK2.out; omega
       case rel => exact ⟨(y416), (t415), (wrap64 (x26_2 + 1)), en_, en_, H', ⟨by have := HK1.out; have := HK2.out; omega⟩, ⟨by (with_reducible repeat (first | apply Kd.R_alloc | apply Kd.R_drewN | apply Kd.R_drew)); exact HO418.out⟩, bl_ BK399, bw_ HB⟩
      rw [if_neg c32] at H
      exact absurd H (by simp)
     by_cases c51 : x6_2.length < 4398046511104
     ·rw [if_pos c51] at H
      have LMc51 := Aside0.mk c51
      clear c51
      obtain ⟨y419, hy419⟩ : ∃ y_ : List (S63), y_ = (x6_2 ++ [(⟨(⟨t405, t406, t407⟩ : S31), t410⟩ : S63)]) := ⟨_, rfl⟩
      replace H : (impl_flowOf.l1 k2 a0 y419 false x8_1 l1_3 (l1_3.length : Int) (wrap64 (x26_2 + 1)) a1_0 a1_1 a1_2 l1_3) = some (r1, r2) := by first | (rw [hy419]; with_reducible exact H) | (have H2_ := (Option.bind_some _ _).symm.trans H; rw [hy419]; with_reducible exact H2_) | (have H2_ := (Option.bind_some _ _).symm.trans H; with_reducible exact H2_) | with_reducible exact H | (rw [hy419]; exact H) | exact H
      have Ny419 := Aside0.mk hy419
      clear hy419
      have H' := Aside0.mk H
      clear H
      have p403 : 0 ≤ (x26_2 : Int) := od_
      have q403 : x26_2 < (l1_3.length : Int) := od_
      obtain ⟨ad403, e403, hx403_0, hx403_1, hx403_2, hx403_3⟩ := at_T72 HR1_3.out x26_2 p403 q403
      cases e403
      replace hx403_0 := clTr HB.out hx403_0
      replace hx403_1 := clTr HB.out hx403_1
      replace hx403_2 := clTr HB.out hx403_2
      replace hx403_3 := clTr HB.out hx403_3
      replace p403 := eq_true p403
      replace q403 := eq_true q403
      go_wp2_with (first | ((refine gd_ 10 ?_); (try (refine gate_guard (by rfl) ?_; dsimp only)); refine bx_ 10 #[.int .i64 0, .int .i64 0, .int .i64 0, .int .i64 0] 72 ?_; intro gb404 hg w52 BK404 hb; have GW404 := bs_ HB hg; have NB399_404 := bm_ BK399 hg; have NB404_399 := bn_ BK399 hg; replace HO_6 := rb_ HO_6 hb; replace BK399 := bb_ BK399 hb; replace HB := bt_ HB hb; clear hb hg; have hnb53 := NB404_399.out; have hnc53 := NB399_404.out; obtain ⟨hcz54_0, hcz54_1, hcz54_2, hcz54_3, hfz54_0, hfz54_1, hfz54_2, hfz54_3⟩ := ch4_ BK404) | ((refine gc_ 72 ?_); refine ge_ 39 Try.func72 #[.int .i64 a0, .agg #[.int .i64 ((rd_T72 l1_3 x26_2).f0.f0), .int .i64 ((rd_T72 l1_3 x26_2).f0.f1), .int .i64 ((rd_T72 l1_3 x26_2).f0.f2)], .int .i64 x8_1] ?_; (with_reducible refine (impl_above.calls k2 a0 ((rd_T72 l1_3 x26_2).f0.f0) ((rd_T72 l1_3 x26_2).f0.f1) ((rd_T72 l1_3 x26_2).f0.f2) x8_1 t405 t406 t407 _ A16.out).mono ?_); rintro e w55 ⟨rfl, hb⟩; refine ⟨_, rfl, ?_⟩; replace HO_6 := Aside0.mk (Kd.R_below (ra_ (rs4_ HO_6.out BK404.out)) hb); replace BK399 := fb_ BK399 NB399_404 hb; replace BK404 := Aside0.mk (blk_below (g := gb404) (o := .cells #[.int .i64 ((rd_T72 l1_3 x26_2).f0.f0), .int .i64 ((rd_T72 l1_3 x26_2).f0.f1), .int .i64 ((rd_T72 l1_3 x26_2).f0.f2), .int .i64 ((rd_T72 l1_3 x26_2).f1)] 72 (0, 0)) (bp_ BK404).out hb); replace HB := bt_ HB hb; (try clear hb)) | ((refine gd_ 11 ?_); (try (refine gate_guard (by rfl) ?_; dsimp only)); refine bx_ 11 #[.int .i64 0, .int .i64 0, .int .i64 0] 31 ?_; intro gb408 hg w56 BK408 hb; have GW408 := bs_ HB hg; have NB399_408 := bm_ BK399 hg; have NB408_399 := bn_ BK399 hg; have NB404_408 := bm_ BK404 hg; have NB408_404 := bn_ BK404 hg; replace HO_6 := rb_ HO_6 hb; replace BK399 := bb_ BK399 hb; replace BK404 := bb_ BK404 hb; replace HB := bt_ HB hb; clear hb hg; have hnb57 := NB408_399.out; have hnc57 := NB399_408.out; have hnb58 := NB408_404.out; have hnc58 := NB404_408.out; obtain ⟨hcz59_0, hcz59_1, hcz59_2, hfz59_0, hfz59_1, hfz59_2⟩ := ch3_ BK408; obtain ⟨Ao60, co60, eo60⟩ := Kd.R_slice HO_6.out; subst eo60) | ((refine gc_ 64 ?_); refine ge_ 42 Try.func64 #[.slice Ao60 x6_2.length co60, .func (.func 73) #[] #[.pointer (some ⟨gb408, 0, none⟩)]] ?_; (with_reducible refine (impl_flowOf_has.calls _ _ x6_2 t405 t406 t407 false _ gb408 ?sb0 ?side1 ?side2 A17.out).mono ?_); (case sb0 => exact (bp_ BK408).out); (case side1 => refine (Kd.R_reads' (e := 63) (base := w.heap.size) (ok := fun k_ => True) (n := x6_2.length) (c := co60) ?_).2.2; exact (ra_ (rs3_ HO_6.out BK408.out))); (case side2 => exact (Kd.R_reads' HO_6.out).2.1); rintro e w61 ⟨rfl, hb⟩; refine ⟨_, rfl, ?_⟩; replace HO_6 := Aside0.mk (Kd.R_below (ra_ (rs3_ HO_6.out BK408.out)) hb); replace BK399 := fb_ BK399 NB399_408 hb; replace BK404 := fb_ BK404 NB404_408 hb; replace BK408 := Aside0.mk (blk_below (g := gb408) (o := .cells #[.int .i64 t405, .int .i64 t406, .int .i64 t407] 31 (0, 0)) (bp_ BK408).out hb); replace HB := bt_ HB hb; (try clear hb); obtain ⟨hcz62_0, hcz62_1, hcz62_2, hcz62_3, hfz62_0, hfz62_1, hfz62_2, hfz62_3⟩ := ch4_ BK399; obtain ⟨hcz63_0, hcz63_1, hcz63_2, hfz63_0, hfz63_1, hfz63_2⟩ := ch3_ BK408) | ((refine gc_ 47 ?_); refine ge_ 47 Try.func47 #[.int .i64 a0, .agg #[.int .i64 a1_0, .int .i64 a1_1, .int .i64 a1_2, .slice (some ad403) l1_3.length c1_3], .agg #[.int .i64 t405, .int .i64 t406, .int .i64 t407]] ?_; (with_reducible refine (impl_total.calls k2 a0 a1_0 a1_1 a1_2 _ _ l1_3 t405 t406 t407 t410 t411 _ ?side1 ?side2 A29.out).mono ?_); (case side1 => exact ca_ (Kd.C_below HR1_3.out HB.out)); (case side2 => exact HC1_3.out); rintro e w64 ⟨rfl, hb⟩; refine ⟨_, rfl, ?_⟩; replace HO_6 := rb_ HO_6 hb; replace BK399 := bb_ BK399 hb; replace BK404 := bb_ BK404 hb; replace BK408 := bb_ BK408 hb; replace HB := bt_ HB hb; (try clear hb); obtain ⟨hcz65_0, hcz65_1, hcz65_2, hfz65_0, hfz65_1, hfz65_2⟩ := ch3_ BK408) | ((with_reducible refine gate_builtin (b := .append) (xs := #[.tmp 56, .tmp 60]) rfl ?_); (try (refine gate_guard (by rfl) ?_; dsimp only)); at_builtin; refine Kd.R_append k63 (w0 := w) w.heap.size rfl (.tmp 56) (.tmp 60) 28 63 (.agg #[(.int .i64 0), (.int .i64 0), (.int .i64 0), (.int .i64 0)]) 32 rfl Try.underlying28 info63 rfl (by decide) (by omega) (.slice Ao60 x6_2.length co60) x6_2 (⟨(⟨t405, t406, t407⟩ : S31), t410⟩ : S63) [.int .i64 t405, .int .i64 t406, .int .i64 t407, .int .i64 t410] (fun _ => True) (fun _ => False) rfl rfl ?aP (fun _ hk => hk.elim) ?aF ?aO ?aB ?aS ?aL ?_; (case aP => exact k63_mkM _ _ _ (⟨(⟨t405, t406, t407⟩ : S31), t410⟩ : S63)); (case aB => exact (bw_ HB).out); (case aF => exact (fun _ _ => trivial)); (case aO => exact (ra_ HO_6.out)); (case aS => exact (below_size (bw_ HB).out)); (case aL => have := LMc51.out; omega); intro v420 w66 ho hb hg hat; rw [← Ny419.out] at ho; have n0_ := Aside0.mk (blk_grown (g := gb399) (o := .cells #[.int .i64 a1_0, .int .i64 a1_1, .int .i64 a1_2, .slice (some ad403) l1_3.length c1_3] 34 (0, 0)) (bl_ BK399).out hg (Kd.R_ne HO_6.out BK399.out (by decide))); have n1_ := Aside0.mk (blk_grown (g := gb404) (o := .cells #[.int .i64 ((rd_T72 l1_3 x26_2).f0.f0), .int .i64 ((rd_T72 l1_3 x26_2).f0.f1), .int .i64 ((rd_T72 l1_3 x26_2).f0.f2), .int .i64 ((rd_T72 l1_3 x26_2).f1)] 72 (0, 0)) (bl_ BK404).out hg (Kd.R_ne HO_6.out BK404.out (by decide))); have n2_ := Aside0.mk (blk_grown (g := gb408) (o := .cells #[.int .i64 t405, .int .i64 t406, .int .i64 t407] 31 (0, 0)) (bl_ BK408).out hg (Kd.R_ne HO_6.out BK408.out (by decide))); have n3_ := Aside0.mk (hb); have n4_ := Aside0.mk (ho); clear BK399; clear BK404; clear BK408; clear HB; clear HO_6; have BK399 := n0_; have BK404 := n1_; have BK408 := n2_; have HB := n3_; have HO421 := n4_; clear n0_ n1_ n2_ n3_ n4_; clear ho hb hg hat))
      go_roundg k2
      case measure => have := HK1.out; have := HK2.out; omega
      case rel => exact ⟨(y419), (false), (wrap64 (x26_2 + 1)), en_, en_, H', ⟨by have := HK1.out; have := HK2.out; omega⟩, ⟨by (with_reducible repeat (first | apply Kd.R_alloc | apply Kd.R_drewN | apply Kd.R_drew)); exact HO421.out⟩, bl_ BK399, bw_ HB⟩
     rw [if_neg c51] at H
     exact absurd H (by simp)
    have H' := Aside0.mk H
    clear H
    go_wp2
    go_roundg k2
    case measure => have := HK1.out; have := HK2.out; omega
    case rel => exact ⟨(x6_2), (x7_2), (wrap64 (x8_1 + 1)), en_, en_, H', ⟨by have := HK1.out; have := HK2.out; omega⟩, ⟨by (with_reducible repeat (first | apply Kd.R_alloc | apply Kd.R_drewN | apply Kd.R_drew)); exact HO_6.out⟩, bl_ BK399, bw_ HB⟩
  simp only [Option.some.injEq, Prod.mk.injEq] at H
  obtain ⟨rfl, rfl⟩ := H
  go_wp2
  go_ret2
  exact ⟨_, es_, by (with_reducible repeat (first | apply Kd.R_alloc | apply Kd.R_drewN | apply Kd.R_drew)); exact HO_6.out, (bw_ HB).out⟩
end Go.Proofs.Ytdfcoebadjhjlaa.QI
