import Derived.Test.YtgoeelhiffbjlaaQBx70
namespace Go.Proofs.Ytgoeelhiffbjlaa.QB
open Go.RowKit YtgoeelhiffbjlaaW.PrintWords YtgoeelhiffbjlaaW.PrintLast YtgoeelhiffbjlaaW.PrintMore
attribute [local go_sem] isSome_setCell max2_int min2_int max_two min_two max_three min_three max_four min_four
set_option linter.unusedVariables false
set_option linter.unusedSimpArgs false
attribute [local go_sem high] eqA150
mutual
def impl_isFree.l0 : Nat → Int → List (S46) → List (S150) → List (S150) → Int → Int → Option (Bool × Int)
 | 0, _, _, _, _, _, _ => none
 | k + 1, x0, x1, x2, x16, x17, x18 => if x18 < x17 then (if 0 ≤ x18 then (if x18 < (x16.length : Int) then (if x18 ≤ (x2.length : Int) then ((some (x2.take (x18 : Int).toNat : List (S150))).bind fun y416 => (impl_isFree.l1 k x0 x1 x2 x16 x17 x18 y416 (y416.length : Int) 0 ((rd_T150 x16 x18).f0.f0) ((rd_T150 x16 x18).f0.f1) ((rd_T150 x16 x18).f0.f2) ((rd_T150 x16 x18).f1))) else (none)) else (none)) else (none)) else (impl_isFree.l2 k x0 x2 x1 (x1.length : Int) 0)
def impl_isFree.l1 : Nat → Int → List (S46) → List (S150) → List (S150) → Int → Int → List (S150) → Int → Int → Int → Int → Int → Bool → Option (Bool × Int)
 | 0, _, _, _, _, _, _, _, _, _, _, _, _, _ => none
 | k + 1, x0, x1, x2, x16, x17, x18, x25, x26, x27, x416000, x416001, x416002, x416003 => if x27 < x26 then (if 0 ≤ x27 then (if x27 < (x25.length : Int) then ((impl_apartSides.f k x0 x416000 x416001 x416002 x416003 ((rd_T150 x25 x27).f0.f0) ((rd_T150 x25 x27).f0.f1) ((rd_T150 x25 x27).f0.f2) ((rd_T150 x25 x27).f1)).bind fun t422 => (if t422 = true then (impl_isFree.l1 k x0 x1 x2 x16 x17 x18 x25 x26 (wrap64 (x27 + 1)) x416000 x416001 x416002 x416003) else (some (false, 0)))) else (none)) else (none)) else (impl_isFree.l0 k x0 x1 x2 x16 x17 (wrap64 (x18 + 1)))
def impl_isFree.l2 : Nat → Int → List (S150) → List (S46) → Int → Int → Option (Bool × Int)
 | 0, _, _, _, _, _ => none
 | k + 1, x0, x2, x38, x39, x40 => if x40 < x39 then (if 0 ≤ x40 then (if x40 < (x38.length : Int) then (if 0 ≤ (wrap64 (2 * x40)) then (if (wrap64 (2 * x40)) < (x2.length : Int) then ((impl_opposite.f ((rd_T150 x2 (wrap64 (2 * x40))).f0.f0) ((rd_T150 x2 (wrap64 (2 * x40))).f0.f1) ((rd_T150 x2 (wrap64 (2 * x40))).f0.f2) ((rd_T150 x2 (wrap64 (2 * x40))).f1)).bind fun bt426 => ((impl_moveSide.f k x0 ((rd_T46 x38 x40).f0.f0) ((rd_T46 x38 x40).f0.f1) ((rd_T46 x38 x40).f1.f0) ((rd_T46 x38 x40).f1.f1) bt426.1 bt426.2.1 bt426.2.2.1 bt426.2.2.2).bind fun bt430 => (if bt430.2.2.2.2 = true then (if 0 ≤ (wrap64 ((wrap64 (2 * x40)) + 1)) then (if (wrap64 ((wrap64 (2 * x40)) + 1)) < (x2.length : Int) then (if ((!(bt430.1 == ((rd_T150 x2 (wrap64 ((wrap64 (2 * x40)) + 1))).f0.f0)) || (!(bt430.2.1 == ((rd_T150 x2 (wrap64 ((wrap64 (2 * x40)) + 1))).f0.f1)) || (!(bt430.2.2.1 == ((rd_T150 x2 (wrap64 ((wrap64 (2 * x40)) + 1))).f0.f2))))) || (!(bt430.2.2.2.1 == ((rd_T150 x2 (wrap64 ((wrap64 (2 * x40)) + 1))).f1)))) = true then (some (false, 0)) else (impl_isFree.l2 k x0 x2 x38 x39 (wrap64 (x40 + 1)))) else (none)) else (none)) else (some (false, 3))))) else (none)) else (none)) else (none)) else (none)) else (some (true, 0))
end
def impl_isFree.f (k : Nat) (a0 : Int) (l1 : List (S46)) (l2 : List (S150)) : Option (Bool × Int) := impl_isFree.l0 k a0 l1 l2 l2 (l2.length : Int) 0
def impl_isFree.T14 : Bool × List (List Nat × List Nat) := (true, [([], []), ([], []), ([], []), ([], []), ([3], [3]), ([2, 4], [2, 4]), ([5], [5]), ([6], [6]), ([0, 1, 7, 7], [0, 1, 7]), ([8], [8]), ([9], [9]), ([9], [9]), ([], []), ([12, 10, 8, 0, 1, 2, 3, 4, 5, 6, 7, 8, 9, 10, 12], [10, 12]), ([11, 13, 0, 1, 2, 3, 4, 5, 6, 7, 8, 9, 10, 11, 12, 13], [11])])
def impl_isFree.B14 : List Nat := [0, 0, 0, 0, 8, 28, 60, 124, 255, 511, 1023, 1023, 0, 6143, 16383]
theorem impl_isFree.tab14 : rtab .any (opsOf Try.f179 14) = impl_isFree.T14 := by kernel_rfl
theorem impl_isFree.bits14 : waitsOk impl_isFree.T14.2 impl_isFree.B14 = true := by kernel_rfl
def impl_isFree.T17 : Bool × List (List Nat × List Nat) := (true, [([], []), ([], []), ([], []), ([2], [2]), ([3], [3]), ([1, 4], [1, 4]), ([5], [5]), ([0, 6], [0, 6]), ([7], [7])])
def impl_isFree.B17 : List Nat := [0, 0, 0, 4, 12, 30, 62, 127, 255]
theorem impl_isFree.tab17 : rtab .any (opsOf Try.f179 17) = impl_isFree.T17 := by kernel_rfl
theorem impl_isFree.bits17 : waitsOk impl_isFree.T17.2 impl_isFree.B17 = true := by kernel_rfl
set_option maxHeartbeats 8000000 in
set_option maxRecDepth 100000 in
theorem impl_isFree.calls (k : Nat) (a0 : Int) (A1 : Option Addr) (c1 : Nat) (l1 : List (S46)) (A2 : Option Addr) (c2 : Nat) (l2 : List (S150)) (r1 : Bool) (r2 : Int) (w : World) (hr1 : Kd.C k46 w A1 l1.length l1) (hc1 : l1.length ≤ c1) (hr2 : Kd.C k150 w A2 l2.length l2) (hc2 : l2.length ≤ c2) (h : impl_isFree.f k a0 l1 l2 = some (r1, r2)) :
  Calls Try.prog 179 #[.int .i64 a0, .slice A1 l1.length c1, .slice A2 l2.length c2] w fun e w' => e = .returned (.tuple #[.bool r1, .int .i64 r2]) ∧ Below w.heap.size w w' := by
 have hu150 := Try.underlying150
 have hu46 := Try.underlying46
 have HR1 := Aside0.mk hr1
 have HC1 := Aside0.mk hc1
 clear hr1 hc1
 have HR2 := Aside0.mk hr2
 have HC2 := Aside0.mk hc2
 clear hr2 hc2
 have HB := Aside0.mk (Below.refl w.heap.size w)
 unfold impl_isFree.f at h
 have H := h
 clear h
 have H' := Aside0.mk H
 clear H
 go_enter Try.func179, Try.ntmps179
 go_wp2
 go_loopg [18] k (fun kq v18 w' => ∃ (x18_1 : Int), v18 = .int .i64 x18_1 ∧ Aside0 (impl_isFree.l0 kq a0 l1 l2 l2 (l2.length : Int) x18_1 = some (r1, r2)) ∧ Aside0 (kq ≤ k) ∧ Aside0 (Below w.heap.size w w'))
 case atStart => exact ⟨(0), en_, H', ⟨Nat.le_refl _⟩, bw_ HB⟩
 clear H'
 try clear c1
 try clear c2
 obtain ⟨x18_1, rfl, HA, HK1, HB⟩ := hrel
 cases gk with
 | zero => exact absurd HA.out (by simp [impl_isFree.l0])
 | succ k1 =>
  have H := HA.out
  clear HA
  simp only [impl_isFree.l0] at H
  replace H := il_ H
  rcases H with ⟨c4b0, H⟩ | ⟨c4b0, H⟩
  ·replace H := imn_ H
   obtain ⟨c5b0, H⟩ := H
   replace H := iln_ H
   obtain ⟨c6b0, H⟩ := H
   have c7b0 := eq_true (od_ : 0 ≤ x18_1)
   by_cases c8 : x18_1 ≤ (l2.length : Int)
   ·rw [if_pos c8] at H
    have c8b0 := eq_true c8
    have c8b1 : decide (x18_1 ≤ (l2.length : Int)) = true := decide_eq_true c8
    clear c8
    obtain ⟨y416, hy416⟩ : ∃ y_ : List (S150), y_ = (l2.take (x18_1 : Int).toNat) := ⟨_, rfl⟩
    replace H : (impl_isFree.l1 k1 a0 l1 l2 l2 (l2.length : Int) x18_1 y416 (y416.length : Int) 0 ((rd_T150 l2 x18_1).f0.f0) ((rd_T150 l2 x18_1).f0.f1) ((rd_T150 l2 x18_1).f0.f2) ((rd_T150 l2 x18_1).f1)) = some (r1, r2) := by first | (rw [hy416]; with_reducible exact H) | (have H2_ := (Option.bind_some _ _).symm.trans H; rw [hy416]; with_reducible exact H2_) | (have H2_ := (Option.bind_some _ _).symm.trans H; with_reducible exact H2_) | with_reducible exact H | (rw [hy416]; exact H) | exact H
    have Ny416 := Aside0.mk hy416
    clear hy416
    have H' := Aside0.mk H
    clear H
    have p414 : 0 ≤ (x18_1 : Int) := od_
    have q414 : x18_1 < (l2.length : Int) := od_
    obtain ⟨ad414, e414, hx414_0, hx414_1, hx414_2, hx414_3⟩ := at_T150 HR2.out x18_1 p414 q414
    cases e414
    replace hx414_0 := clTr HB.out hx414_0
    replace hx414_1 := clTr HB.out hx414_1
    replace hx414_2 := clTr HB.out hx414_2
    replace hx414_3 := clTr HB.out hx414_3
    replace p414 := eq_true p414
    replace q414 := eq_true q414
    go_wp2_with (first | ((refine gd_ 9 ?_); refine by_ 9 #[.int .i64 0, .int .i64 0, .int .i64 0, .bool false] 150 HB ?_; intro gb415 hg w9 BK415 hb GW415 HB_; replace HB := HB_; clear hb hg; obtain ⟨hcz10_0, hcz10_1, hcz10_2, hcz10_3, hfz10_0, hfz10_1, hfz10_2, hfz10_3⟩ := ch4_ BK415) | ((with_reducible refine gate_store (t := 150) (p := 9) rfl ?_); refine store_event (t := 150) (p := 9) (v := ?vo_w11) (w1 := ((((w9.setCell ⟨gb415, 0, none⟩ (.int .i64 ((rd_T150 l2 x18_1).f0.f0))).setCell ⟨gb415, 1, none⟩ (.int .i64 ((rd_T150 l2 x18_1).f0.f1))).setCell ⟨gb415, 2, none⟩ (.int .i64 ((rd_T150 l2 x18_1).f0.f2))).setCell ⟨gb415, 3, none⟩ (.bool ((rd_T150 l2 x18_1).f1)))) ?hg ?ho ?hn ?hr ?_; (case ho => rfl); (case hg => rfl); (case hn => rfl); (case hr => first | (go_simp; done) | (go_simp; rfl)); intro w11 hw; have n0_ : Aside0 (w11.heap[gb415]? = some (.cells #[.int .i64 ((rd_T150 l2 x18_1).f0.f0), .int .i64 ((rd_T150 l2 x18_1).f0.f1), .int .i64 ((rd_T150 l2 x18_1).f0.f2), .bool ((rd_T150 l2 x18_1).f1)] 150 (0, 0))) := ⟨(by rw [hw]; exact (bp_ BK415).out)⟩; have n1_ : Aside0 (Below w.heap.size w w11) := ⟨(by rw [hw]; exact (bw_ HB).out)⟩; clear hw; clear BK415; clear HB; have BK415 := n0_; have HB := n1_; clear n0_ n1_; have q12 : (x18_1 : Int) ≤ ((l2.length : Int) : Int) := od_; obtain ⟨i012, hi012, _, hsz12, _⟩ := info_parts info150; have hroom12 : l2.length ≤ c2 := HC2.out; have hC12 : Kd.C k150 _ (some ad414) l2.length l2 := HR2.out; have hcut12 := cut_to (P := Try.prog) 79 150 .i64 Try.underlying79 hi012 (some ad414) l2.length c2 x18_1 od_ q12 hroom12; have hr12 := Kd.C_take (m := (x18_1 : Int).toNat) hC12 (by omega); have hy12 : y416.length = (x18_1 : Int).toNat := (by rw [Ny416.out, List.length_take]; omega); rw [← Ny416.out] at hr12; rw [← hy12] at hcut12; have HR419 := Aside0.mk hr12; have HC419 := Aside0.mk (show y416.length ≤ c2 from by omega); clear hr12 hC12 hroom12 hi012 hsz12; have KY12 := Aside0.mk hy12; clear hy12; replace q12 := eq_true q12))
    go_loopg [27] k1 (fun kq v27 w' => ∃ (x27_2 : Int), v27 = .int .i64 x27_2 ∧ Aside0 (impl_isFree.l1 kq a0 l1 l2 l2 (l2.length : Int) x18_1 y416 (y416.length : Int) x27_2 ((rd_T150 l2 x18_1).f0.f0) ((rd_T150 l2 x18_1).f0.f1) ((rd_T150 l2 x18_1).f0.f2) ((rd_T150 l2 x18_1).f1) = some (r1, r2)) ∧ Aside0 (kq ≤ k1) ∧ Aside0 (w'.heap[gb415]? = some (.cells #[.int .i64 ((rd_T150 l2 x18_1).f0.f0), .int .i64 ((rd_T150 l2 x18_1).f0.f1), .int .i64 ((rd_T150 l2 x18_1).f0.f2), .bool ((rd_T150 l2 x18_1).f1)] 150 (0, 0))) ∧ Aside0 (Below w.heap.size w w'))
    case atStart => exact ⟨(0), en_, H', ⟨Nat.le_refl _⟩, bl_ BK415, bw_ HB⟩
    clear H'
    try clear c1
    try clear c2
    try clear c4b0
    try clear c5b0
    try clear c6b0
    try clear c7b0
    try clear c8
    try clear c8b0
    try clear c8b1
    try clear q12
    try clear hcz10_0 hcz10_1 hcz10_2 hcz10_3
    try clear hfz10_0 hfz10_1 hfz10_2 hfz10_3
    try clear hx414_0
    try clear hx414_1
    try clear hx414_2
    try clear hx414_3
    try clear p414
    try clear q12
    try clear q414
    obtain ⟨x27_2, rfl, HA, HK2, BK415, HB⟩ := hrel
    cases gk with
    | zero => exact absurd HA.out (by simp [impl_isFree.l1])
    | succ k2 =>
     have H := HA.out
     clear HA
     simp only [impl_isFree.l1] at H
     replace H := il_ H
     rcases H with ⟨c13b0, H⟩ | ⟨c13b0, H⟩
     ·replace H := imn_ H
      obtain ⟨c14b0, H⟩ := H
      replace H := iln_ H
      obtain ⟨c15b0, H⟩ := H
      replace H := oc_ H
      obtain ⟨t422, A16, H⟩ := H
      replace H := ib_ H
      rcases H with ⟨rfl, H⟩ | ⟨rfl, H⟩
      ·have H' := Aside0.mk H
       clear H
       have p420 : 0 ≤ (x27_2 : Int) := od_
       have q420 : x27_2 < (y416.length : Int) := od_
       obtain ⟨ad420, e420, hx420_0, hx420_1, hx420_2, hx420_3⟩ := at_T150 HR419.out x27_2 p420 q420
       obtain rfl : ad414 = ad420 := (by injection e420)
       replace hx420_0 := clTr HB.out hx420_0
       replace hx420_1 := clTr HB.out hx420_1
       replace hx420_2 := clTr HB.out hx420_2
       replace hx420_3 := clTr HB.out hx420_3
       replace p420 := eq_true p420
       replace q420 := eq_true q420
       go_wp2_with (first | ((refine gd_ 11 ?_); refine by_ 11 #[.int .i64 0, .int .i64 0, .int .i64 0, .bool false] 150 HB ?_; intro gb421 hg w18 BK421 hb GW421 HB_; have NB415_421 := bm_ BK415 hg; have NB421_415 := bn_ BK415 hg; replace BK415 := bb_ BK415 hb; replace HB := HB_; clear hb hg; have hnb19 := NB421_415.out; have hnc19 := NB415_421.out; obtain ⟨hcz20_0, hcz20_1, hcz20_2, hcz20_3, hfz20_0, hfz20_1, hfz20_2, hfz20_3⟩ := ch4_ BK421; obtain ⟨hcz21_0, hcz21_1, hcz21_2, hcz21_3, hfz21_0, hfz21_1, hfz21_2, hfz21_3⟩ := ch4_ BK415) | ((refine gc_ 198 ?_); refine ge_ 34 Try.func198 #[.int .i64 a0, .agg #[.int .i64 ((rd_T150 l2 x18_1).f0.f0), .int .i64 ((rd_T150 l2 x18_1).f0.f1), .int .i64 ((rd_T150 l2 x18_1).f0.f2), .bool ((rd_T150 l2 x18_1).f1)], .agg #[.int .i64 ((rd_T150 y416 x27_2).f0.f0), .int .i64 ((rd_T150 y416 x27_2).f0.f1), .int .i64 ((rd_T150 y416 x27_2).f0.f2), .bool ((rd_T150 y416 x27_2).f1)]] ?_; (with_reducible refine (impl_apartSides.calls k2 a0 ((rd_T150 l2 x18_1).f0.f0) ((rd_T150 l2 x18_1).f0.f1) ((rd_T150 l2 x18_1).f0.f2) ((rd_T150 l2 x18_1).f1) ((rd_T150 y416 x27_2).f0.f0) ((rd_T150 y416 x27_2).f0.f1) ((rd_T150 y416 x27_2).f0.f2) ((rd_T150 y416 x27_2).f1) true _ A16.out).mono ?_); rintro e w22 ⟨rfl, hb⟩; refine ⟨_, rfl, ?_⟩; replace BK415 := fb_ BK415 NB415_421 hb; replace BK421 := Aside0.mk (blk_below (g := gb421) (o := .cells #[.int .i64 ((rd_T150 y416 x27_2).f0.f0), .int .i64 ((rd_T150 y416 x27_2).f0.f1), .int .i64 ((rd_T150 y416 x27_2).f0.f2), .bool ((rd_T150 y416 x27_2).f1)] 150 (0, 0)) (bp_ BK421).out hb); replace HB := bt_ HB hb; (try clear hb)))
       go_roundg k2
       case measure => have := HK1.out; have := HK2.out; omega
       case rel => exact ⟨(wrap64 (x27_2 + 1)), en_, H', ⟨by have := HK1.out; have := HK2.out; omega⟩, bl_ BK415, bw_ HB⟩
      simp only [Option.some.injEq, Prod.mk.injEq] at H
      obtain ⟨rfl, rfl⟩ := H
      have p420 : 0 ≤ (x27_2 : Int) := od_
      have q420 : x27_2 < (y416.length : Int) := od_
      obtain ⟨ad420, e420, hx420_0, hx420_1, hx420_2, hx420_3⟩ := at_T150 HR419.out x27_2 p420 q420
      obtain rfl : ad414 = ad420 := (by injection e420)
      replace hx420_0 := clTr HB.out hx420_0
      replace hx420_1 := clTr HB.out hx420_1
      replace hx420_2 := clTr HB.out hx420_2
      replace hx420_3 := clTr HB.out hx420_3
      replace p420 := eq_true p420
      replace q420 := eq_true q420
      go_wp2_with (first | ((refine gd_ 11 ?_); refine by_ 11 #[.int .i64 0, .int .i64 0, .int .i64 0, .bool false] 150 HB ?_; intro gb421 hg w23 BK421 hb GW421 HB_; have NB415_421 := bm_ BK415 hg; have NB421_415 := bn_ BK415 hg; replace BK415 := bb_ BK415 hb; replace HB := HB_; clear hb hg; have hnb24 := NB421_415.out; have hnc24 := NB415_421.out; obtain ⟨hcz25_0, hcz25_1, hcz25_2, hcz25_3, hfz25_0, hfz25_1, hfz25_2, hfz25_3⟩ := ch4_ BK421; obtain ⟨hcz26_0, hcz26_1, hcz26_2, hcz26_3, hfz26_0, hfz26_1, hfz26_2, hfz26_3⟩ := ch4_ BK415) | ((refine gc_ 198 ?_); refine ge_ 34 Try.func198 #[.int .i64 a0, .agg #[.int .i64 ((rd_T150 l2 x18_1).f0.f0), .int .i64 ((rd_T150 l2 x18_1).f0.f1), .int .i64 ((rd_T150 l2 x18_1).f0.f2), .bool ((rd_T150 l2 x18_1).f1)], .agg #[.int .i64 ((rd_T150 y416 x27_2).f0.f0), .int .i64 ((rd_T150 y416 x27_2).f0.f1), .int .i64 ((rd_T150 y416 x27_2).f0.f2), .bool ((rd_T150 y416 x27_2).f1)]] ?_; (with_reducible refine (impl_apartSides.calls k2 a0 ((rd_T150 l2 x18_1).f0.f0) ((rd_T150 l2 x18_1).f0.f1) ((rd_T150 l2 x18_1).f0.f2) ((rd_T150 l2 x18_1).f1) ((rd_T150 y416 x27_2).f0.f0) ((rd_T150 y416 x27_2).f0.f1) ((rd_T150 y416 x27_2).f0.f2) ((rd_T150 y416 x27_2).f1) false _ A16.out).mono ?_); rintro e w27 ⟨rfl, hb⟩; refine ⟨_, rfl, ?_⟩; replace BK415 := fb_ BK415 NB415_421 hb; replace BK421 := Aside0.mk (blk_below (g := gb421) (o := .cells #[.int .i64 ((rd_T150 y416 x27_2).f0.f0), .int .i64 ((rd_T150 y416 x27_2).f0.f1), .int .i64 ((rd_T150 y416 x27_2).f0.f2), .bool ((rd_T150 y416 x27_2).f1)] 150 (0, 0)) (bp_ BK421).out hb); replace HB := bt_ HB hb; (try clear hb)))
      go_ret2
      exact ⟨es_, (bw_ HB).out⟩
     have H' := Aside0.mk H
     clear H
     go_wp2
     go_roundg k2
     case measure => have := HK1.out; have := HK2.out; omega
     case rel => exact ⟨(wrap64 (x18_1 + 1)), en_, H', ⟨by have := HK1.out; have := HK2.out; omega⟩, bw_ HB⟩
   rw [if_neg c8] at H
   exact absurd H (by simp)
  have H' := Aside0.mk H
  clear H
  go_wp2
  go_loopg [40] k1 (fun kq v40 w' => ∃ (x40_2 : Int), v40 = .int .i64 x40_2 ∧ Aside0 (impl_isFree.l2 kq a0 l2 l1 (l1.length : Int) x40_2 = some (r1, r2)) ∧ Aside0 (kq ≤ k1) ∧ Aside0 (Below w.heap.size w w'))
  case atStart => exact ⟨(0), en_, H', ⟨Nat.le_refl _⟩, bw_ HB⟩
  clear H'
  try clear c1
  try clear c2
  try clear c4b0
  try clear c5b0
  try clear c6b0
  try clear c7b0
  try clear c8
  try clear c8b0
  try clear c8b1
  try clear q12
  try clear c13b0
  try clear c14b0
  try clear c15b0
  try clear hcz10_0 hcz10_1 hcz10_2 hcz10_3
  try clear hcz20_0 hcz20_1 hcz20_2 hcz20_3
  try clear hcz21_0 hcz21_1 hcz21_2 hcz21_3
  try clear hcz25_0 hcz25_1 hcz25_2 hcz25_3
  try clear hcz26_0 hcz26_1 hcz26_2 hcz26_3
  try clear hfz10_0 hfz10_1 hfz10_2 hfz10_3
  try clear hfz20_0 hfz20_1 hfz20_2 hfz20_3
  try clear hfz21_0 hfz21_1 hfz21_2 hfz21_3
  try clear hfz25_0 hfz25_1 hfz25_2 hfz25_3
  try clear hfz26_0 hfz26_1 hfz26_2 hfz26_3
  try clear hx414_0
  try clear hx414_1
  try clear hx414_2
  try clear hx414_3
  try clear hx420_0
  try clear hx420_1
  try clear hx420_2
  try clear hx420_3
  try clear p414
  try clear p420
  try clear q12
  try clear q414
  try clear q420
  obtain ⟨x40_2, rfl, HA, HK2, HB⟩ := hrel
  cases gk with
  | zero => exact absurd HA.out (by simp [impl_isFree.l2])
  | succ k2 =>
   have H := HA.out
   clear HA
   simp only [impl_isFree.l2] at H
   replace H := il_ H
   rcases H with ⟨c28b0, H⟩ | ⟨c28b0, H⟩
   ·replace H := imn_ H
    obtain ⟨c29b0, H⟩ := H
    replace H := iln_ H
    obtain ⟨c30b0, H⟩ := H
    obtain ⟨ji31, hji31⟩ : ∃ j_ : Int, (wrap64 (2 * x40_2)) = j_ := ⟨_, rfl⟩
    replace H : (if 0 ≤ (ji31) then (if (ji31) < (l2.length : Int) then ((impl_opposite.f ((rd_T150 l2 (ji31)).f0.f0) ((rd_T150 l2 (ji31)).f0.f1) ((rd_T150 l2 (ji31)).f0.f2) ((rd_T150 l2 (ji31)).f1)).bind fun bt426 => ((impl_moveSide.f k2 a0 ((rd_T46 l1 x40_2).f0.f0) ((rd_T46 l1 x40_2).f0.f1) ((rd_T46 l1 x40_2).f1.f0) ((rd_T46 l1 x40_2).f1.f1) bt426.1 bt426.2.1 bt426.2.2.1 bt426.2.2.2).bind fun bt430 => (if bt430.2.2.2.2 = true then (if 0 ≤ (wrap64 ((ji31) + 1)) then (if (wrap64 ((ji31) + 1)) < (l2.length : Int) then (if ((!(bt430.1 == ((rd_T150 l2 (wrap64 ((ji31) + 1))).f0.f0)) || (!(bt430.2.1 == ((rd_T150 l2 (wrap64 ((ji31) + 1))).f0.f1)) || (!(bt430.2.2.1 == ((rd_T150 l2 (wrap64 ((ji31) + 1))).f0.f2))))) || (!(bt430.2.2.2.1 == ((rd_T150 l2 (wrap64 ((ji31) + 1))).f1)))) = true then (some (false, 0)) else (impl_isFree.l2 k2 a0 l2 l1 (l1.length : Int) (wrap64 (x40_2 + 1)))) else (none)) else (none)) else (some (false, 3))))) else (none)) else (none)) = some (r1, r2) := by first | (rw [hji31] at H; exact H) | (simp only [hji31] at H ⊢; exact H)
    have hji31w : (IntKind.i64.wrap (2 * x40_2)) = ji31 := (i64_w _).trans hji31
    replace H := imn_ H
    obtain ⟨c32b0, H⟩ := H
    replace H := iln_ H
    obtain ⟨c33b0, H⟩ := H
    replace H := oc_ H
    obtain ⟨⟨t426, t427, t428, t429⟩, A34, H⟩ := H
    replace H := oc_ H
    obtain ⟨⟨t430, t431, t432, t433, t434⟩, A35, H⟩ := H
    replace H := ib_ H
    rcases H with ⟨rfl, H⟩ | ⟨rfl, H⟩
    ·obtain ⟨ji37, hji37⟩ : ∃ j_ : Int, (wrap64 ((ji31) + 1)) = j_ := ⟨_, rfl⟩
     replace H : (if 0 ≤ (ji37) then (if (ji37) < (l2.length : Int) then (if ((!(t430 == ((rd_T150 l2 (ji37)).f0.f0)) || (!(t431 == ((rd_T150 l2 (ji37)).f0.f1)) || (!(t432 == ((rd_T150 l2 (ji37)).f0.f2))))) || (!(t433 == ((rd_T150 l2 (ji37)).f1)))) = true then (some (false, 0)) else (impl_isFree.l2 k2 a0 l2 l1 (l1.length : Int) (wrap64 (x40_2 + 1)))) else (none)) else (none)) = some (r1, r2) := by first | (rw [hji37] at H; exact H) | (simp only [hji37] at H ⊢; exact H)
     (try rw [hji37] at A34)
     (try rw [hji37] at A35)
     have hji37w : (IntKind.i64.wrap ((ji31) + 1)) = ji37 := (i64_w _).trans hji37
     replace H := imn_ H
     obtain ⟨c38b0, H⟩ := H
     replace H := iln_ H
     obtain ⟨c39b0, H⟩ := H
     by_cases c40 : ((!(t430 == ((rd_T150 l2 (ji37)).f0.f0)) || (!(t431 == ((rd_T150 l2 (ji37)).f0.f1)) || (!(t432 == ((rd_T150 l2 (ji37)).f0.f2))))) || (!(t433 == ((rd_T150 l2 (ji37)).f1)))) = true
     ·rw [if_pos c40] at H
      have c40b0 : ((!(t430 == ((rd_T150 l2 (ji37)).f0.f0)) || (!(t431 == ((rd_T150 l2 (ji37)).f0.f1)) || (!(t432 == ((rd_T150 l2 (ji37)).f0.f2))))) || (!(t433 == ((rd_T150 l2 (ji37)).f1)))) = true := c40
      clear c40
      simp only [Option.some.injEq, Prod.mk.injEq] at H
      obtain ⟨rfl, rfl⟩ := H
      have p423 : 0 ≤ (x40_2 : Int) := od_
      have q423 : x40_2 < (l1.length : Int) := od_
      obtain ⟨ad423, e423, hx423_0, hx423_1, hx423_2, hx423_3⟩ := at_T46 HR1.out x40_2 p423 q423
      cases e423
      replace hx423_0 := clTr HB.out hx423_0
      replace hx423_1 := clTr HB.out hx423_1
      replace hx423_2 := clTr HB.out hx423_2
      replace hx423_3 := clTr HB.out hx423_3
      replace p423 := eq_true p423
      replace q423 := eq_true q423
      try go_wp2_with (first | ((refine gd_ 13 ?_); refine by_ 13 #[.int .i64 0, .int .i64 0, .int .i64 0, .int .i64 0] 46 HB ?_; intro gb424 hg w41 BK424 hb GW424 HB_; replace HB := HB_; clear hb hg; obtain ⟨hcz42_0, hcz42_1, hcz42_2, hcz42_3, hfz42_0, hfz42_1, hfz42_2, hfz42_3⟩ := ch4_ BK424))
      have n0_ : Aside0 (((((w41.setCell ⟨gb424, 0, none⟩ (.int .i64 ((rd_T46 l1 x40_2).f0.f0))).setCell ⟨gb424, 1, none⟩ (.int .i64 ((rd_T46 l1 x40_2).f0.f1))).setCell ⟨gb424, 2, none⟩ (.int .i64 ((rd_T46 l1 x40_2).f1.f0))).setCell ⟨gb424, 3, none⟩ (.int .i64 ((rd_T46 l1 x40_2).f1.f1))).heap[gb424]? = some (.cells #[.int .i64 ((rd_T46 l1 x40_2).f0.f0), .int .i64 ((rd_T46 l1 x40_2).f0.f1), .int .i64 ((rd_T46 l1 x40_2).f1.f0), .int .i64 ((rd_T46 l1 x40_2).f1.f1)] 46 (0, 0))) := bp_ BK424
      have n1_ : Aside0 (Below w.heap.size w ((((w41.setCell ⟨gb424, 0, none⟩ (.int .i64 ((rd_T46 l1 x40_2).f0.f0))).setCell ⟨gb424, 1, none⟩ (.int .i64 ((rd_T46 l1 x40_2).f0.f1))).setCell ⟨gb424, 2, none⟩ (.int .i64 ((rd_T46 l1 x40_2).f1.f0))).setCell ⟨gb424, 3, none⟩ (.int .i64 ((rd_T46 l1 x40_2).f1.f1)))) := bw_ HB
      (try clear BK424)
      (try clear HB)
      generalize ((((w41.setCell ⟨gb424, 0, none⟩ (.int .i64 ((rd_T46 l1 x40_2).f0.f0))).setCell ⟨gb424, 1, none⟩ (.int .i64 ((rd_T46 l1 x40_2).f0.f1))).setCell ⟨gb424, 2, none⟩ (.int .i64 ((rd_T46 l1 x40_2).f1.f0))).setCell ⟨gb424, 3, none⟩ (.int .i64 ((rd_T46 l1 x40_2).f1.f1))) = w43 at n0_ n1_ ⊢
      have BK424 := n0_
      have HB := n1_
      clear n0_ n1_
      replace BK424 := bd_ BK424
      replace HB := be_ HB
      have p425 : 0 ≤ ((ji31) : Int) := od_
      have q425 : (ji31) < (l2.length : Int) := od_
      obtain ⟨ad425, e425, hx425_0, hx425_1, hx425_2, hx425_3⟩ := at_T150 HR2.out (ji31) p425 q425
      have hw425_3 := hx425_3
      have hw425_2 := hx425_2
      have hw425_1 := hx425_1
      have hw425_0 := hx425_0
      cases e425
      replace hx425_0 := clTr HB.out hx425_0
      replace hx425_1 := clTr HB.out hx425_1
      replace hx425_2 := clTr HB.out hx425_2
      replace hx425_3 := clTr HB.out hx425_3
      replace p425 := eq_true p425
      replace q425 := eq_true q425
      refine start_ (n := 15) (S := fun w' => w'.cell? ⟨gb424, 0, none⟩ = some (.int .i64 ((rd_T46 l1 x40_2).f0.f0)) ∧ w'.cell? ⟨gb424, 1, none⟩ = some (.int .i64 ((rd_T46 l1 x40_2).f0.f1)) ∧ w'.cell? ⟨gb424, 2, none⟩ = some (.int .i64 ((rd_T46 l1 x40_2).f1.f0)) ∧ w'.cell? ⟨gb424, 3, none⟩ = some (.int .i64 ((rd_T46 l1 x40_2).f1.f1)) ∧ w'.cell? (ad425.add (((ji31)).toNat * 4)) = some (.int .i64 ((rd_T150 l2 (ji31)).f0.f0)) ∧ w'.cell? ⟨(ad425.add (((ji31)).toNat * 4)).block, (ad425.add (((ji31)).toNat * 4)).off + 1, none⟩ = some (.int .i64 ((rd_T150 l2 (ji31)).f0.f1)) ∧ w'.cell? ⟨(ad425.add (((ji31)).toNat * 4)).block, (ad425.add (((ji31)).toNat * 4)).off + 2, none⟩ = some (.int .i64 ((rd_T150 l2 (ji31)).f0.f2)) ∧ w'.cell? ⟨(ad425.add (((ji31)).toNat * 4)).block, (ad425.add (((ji31)).toNat * 4)).off + 3, none⟩ = some (.bool ((rd_T150 l2 (ji31)).f1))) (ds := []) (bv_ 15 0) (by kernel_rfl) rfl rfl ⟨cz_ BK424 0, cz_ BK424 1, cz_ BK424 2, cz_ BK424 3, (clTr HB.out hw425_0 :), (clTr HB.out hw425_1 :), (clTr HB.out hw425_2 :), (clTr HB.out hw425_3 :)⟩ (fun hHeld => ?_); refine with_tabW impl_isFree.tab14 impl_isFree.bits14 (fun HT_ HW_ => ?_)
      generalize w43.drew = w44 at BK424 HB hx425_0 hx425_1 hx425_2 hx425_3 hHeld ⊢
      refine px_ HT_ 0 46 1 ?_
      refine px_ HT_ 2 48 5 ?_
      refine px_ HT_ 3 49 13 ?_
      refine px_ HT_ 4 50 29 ?_
      refine px_ HT_ 5 51 61 ?_
      refine ta_ HT_ HW_ 1 (some 47) (bv_ 15 63) hHeld ?_ (hy := by rintro w' ⟨s0, s1, s2, s3, s4, s5, s6, s7⟩; go_simp; with_reducible rfl)
      refine ta_ HT_ HW_ 6 (some 52) (bv_ 15 127) hHeld ?_ (hy := by rintro w' ⟨s0, s1, s2, s3, s4, s5, s6, s7⟩; go_simp; with_reducible rfl)
      refine join_ (σ := Nat) 2 (bv_ 15 8191) (fun s_ => [(53, .agg #[.int .i64 t426, .int .i64 t427, .int .i64 t428, .bool t429]), (54, .tuple #[.agg #[.int .i64 t430, .int .i64 t431, .int .i64 t432, .bool t433], .bool true]), (14, .pointer (some ⟨s_, 0, none⟩)), (45, .tuple #[.agg #[.int .i64 t430, .int .i64 t431, .int .i64 t432, .bool t433], .bool true]), (55, .agg #[.int .i64 t430, .int .i64 t431, .int .i64 t432, .bool t433]), (56, .bool true)]) (fun s_ w' => (w'.cell? ⟨gb424, 0, none⟩ = some (.int .i64 ((rd_T46 l1 x40_2).f0.f0)) ∧ w'.cell? ⟨gb424, 1, none⟩ = some (.int .i64 ((rd_T46 l1 x40_2).f0.f1)) ∧ w'.cell? ⟨gb424, 2, none⟩ = some (.int .i64 ((rd_T46 l1 x40_2).f1.f0)) ∧ w'.cell? ⟨gb424, 3, none⟩ = some (.int .i64 ((rd_T46 l1 x40_2).f1.f1)) ∧ w'.cell? (ad425.add (((ji31)).toNat * 4)) = some (.int .i64 ((rd_T150 l2 (ji31)).f0.f0)) ∧ w'.cell? ⟨(ad425.add (((ji31)).toNat * 4)).block, (ad425.add (((ji31)).toNat * 4)).off + 1, none⟩ = some (.int .i64 ((rd_T150 l2 (ji31)).f0.f1)) ∧ w'.cell? ⟨(ad425.add (((ji31)).toNat * 4)).block, (ad425.add (((ji31)).toNat * 4)).off + 2, none⟩ = some (.int .i64 ((rd_T150 l2 (ji31)).f0.f2)) ∧ w'.cell? ⟨(ad425.add (((ji31)).toNat * 4)).block, (ad425.add (((ji31)).toNat * 4)).off + 3, none⟩ = some (.bool ((rd_T150 l2 (ji31)).f1))) ∧ (w'.heap[gb424]? = some (.cells #[.int .i64 ((rd_T46 l1 x40_2).f0.f0), .int .i64 ((rd_T46 l1 x40_2).f0.f1), .int .i64 ((rd_T46 l1 x40_2).f1.f0), .int .i64 ((rd_T46 l1 x40_2).f1.f1)] 46 (0, 0))) ∧ (w'.heap[s_]? = some (.cells #[.int .i64 0, .int .i64 0, .int .i64 0, .bool false] 150 (0, 0))) ∧ (w.heap.size ≤ s_) ∧ (w.heap.size ≤ s_) ∧ (gb424 ≠ s_) ∧ (s_ ≠ gb424) ∧ (Below w.heap.size w w')) ?_ ?_
      rotate_left
      ·intro hCont
       refine tw_ HT_ 7 12 (some 53) (some 14) (bv_ 15 255) (bv_ 15 4223) (fun K hK => ?_) (fun K hK => ?_)
       ·skip
        refine gs_ Try.func200 #[.agg #[.int .i64 ((rd_T150 l2 (ji31)).f0.f0), .int .i64 ((rd_T150 l2 (ji31)).f0.f1), .int .i64 ((rd_T150 l2 (ji31)).f0.f2), .bool ((rd_T150 l2 (ji31)).f1)]] ?_ (hargs := by (try simp only [List.map_toArray, List.map_cons, List.map_nil]); first | done | (simp only [hji31]; rfl) | rfl | (simp only [List.length_drop, List.length_take]; rfl))
        with_reducible refine (impl_opposite.calls ((rd_T150 l2 (ji31)).f0.f0) ((rd_T150 l2 (ji31)).f0.f1) ((rd_T150 l2 (ji31)).f0.f2) ((rd_T150 l2 (ji31)).f1) t426 t427 t428 t429 _ A34.out).mono ?_
        rintro e w45 ⟨rfl, hb⟩
        refine ⟨_, rfl, ?_⟩
        replace BK424 := bb_ BK424 hb
        replace HB := bt_ HB hb
        try clear hb
        refine hK.out _ _ ⟨cz_ BK424 0, cz_ BK424 1, cz_ BK424 2, cz_ BK424 3, (clTr HB.out hw425_0 :), (clTr HB.out hw425_1 :), (clTr HB.out hw425_2 :), (clTr HB.out hw425_3 :)⟩ (fun hHeld => ?_)
        clear hK K
        refine nm_ (some 53) ?_
        refine tw_ HT_ 8 12 (some 54) (some 14) (bv_ 15 511) (bv_ 15 4351) (fun K hK => ?_) (fun K hK => ?_)
        ·skip
         refine gs_ Try.func199 #[.int .i64 a0, .agg #[.int .i64 ((rd_T46 l1 x40_2).f0.f0), .int .i64 ((rd_T46 l1 x40_2).f0.f1), .int .i64 ((rd_T46 l1 x40_2).f1.f0), .int .i64 ((rd_T46 l1 x40_2).f1.f1)], .agg #[.int .i64 t426, .int .i64 t427, .int .i64 t428, .bool t429]] ?_
         with_reducible refine (impl_moveSide.calls k2 a0 ((rd_T46 l1 x40_2).f0.f0) ((rd_T46 l1 x40_2).f0.f1) ((rd_T46 l1 x40_2).f1.f0) ((rd_T46 l1 x40_2).f1.f1) t426 t427 t428 t429 t430 t431 t432 t433 true _ A35.out).mono ?_
         rintro e w46 ⟨rfl, hb⟩
         refine ⟨_, rfl, ?_⟩
         replace BK424 := bb_ BK424 hb
         replace HB := bt_ HB hb
         try clear hb
         refine hK.out _ _ ⟨cz_ BK424 0, cz_ BK424 1, cz_ BK424 2, cz_ BK424 3, (clTr HB.out hw425_0 :), (clTr HB.out hw425_1 :), (clTr HB.out hw425_2 :), (clTr HB.out hw425_3 :)⟩ (fun hHeld => ?_)
         clear hK K
         refine nm_ (some 54) ?_
         refine px_ HT_ 9 45 1023 ?_
         refine px_ HT_ 10 55 2047 ?_
         refine px_ HT_ 11 56 4095 ?_
         refine on_ HT_ 12 (some 14) (bv_ 15 8191) (fun K hK => ?_)
         refine bz_ 14 #[.int .i64 0, .int .i64 0, .int .i64 0, .bool false] 150 ?_
         intro gb435 hg w47 BK435 hb
         have GW435 := bs_ HB hg
         have NB424_435 := bm_ BK424 hg
         have NB435_424 := bn_ BK424 hg
         replace BK424 := bb_ BK424 hb
         replace HB := bt_ HB hb
         clear hb hg
         refine hK.out _ _ ⟨cz_ BK424 0, cz_ BK424 1, cz_ BK424 2, cz_ BK424 3, (clTr HB.out hw425_0 :), (clTr HB.out hw425_1 :), (clTr HB.out hw425_2 :), (clTr HB.out hw425_3 :)⟩ (fun hHeld => ?_)
         clear hK K
         refine nm_ (some 14) ?_
         exact norm_ (by simp only [putAll, Act.put, lstS, lstZ, lstC]) (hCont (gb435) _ ⟨hHeld, (bl_ BK424).out, (bl_ BK435).out, GW435.out, GW435.out, NB424_435.out, NB435_424.out, (bw_ HB).out⟩)
        skip
        refine bz_ 14 #[.int .i64 0, .int .i64 0, .int .i64 0, .bool false] 150 ?_
        intro gb435 hg w46 BK435 hb
        have GW435 := bs_ HB hg
        have NB424_435 := bm_ BK424 hg
        have NB435_424 := bn_ BK424 hg
        replace BK424 := bb_ BK424 hb
        replace HB := bt_ HB hb
        clear hb hg
        refine hK.out _ _ ⟨cz_ BK424 0, cz_ BK424 1, cz_ BK424 2, cz_ BK424 3, (clTr HB.out hw425_0 :), (clTr HB.out hw425_1 :), (clTr HB.out hw425_2 :), (clTr HB.out hw425_3 :)⟩ (fun hHeld => ?_)
        clear hK K
        refine nm_ (some 14) ?_
        refine on_ HT_ 8 (some 54) (bv_ 15 4607) (fun K hK => ?_)
        refine gs_ Try.func199 #[.int .i64 a0, .agg #[.int .i64 ((rd_T46 l1 x40_2).f0.f0), .int .i64 ((rd_T46 l1 x40_2).f0.f1), .int .i64 ((rd_T46 l1 x40_2).f1.f0), .int .i64 ((rd_T46 l1 x40_2).f1.f1)], .agg #[.int .i64 t426, .int .i64 t427, .int .i64 t428, .bool t429]] ?_
        with_reducible refine (impl_moveSide.calls k2 a0 ((rd_T46 l1 x40_2).f0.f0) ((rd_T46 l1 x40_2).f0.f1) ((rd_T46 l1 x40_2).f1.f0) ((rd_T46 l1 x40_2).f1.f1) t426 t427 t428 t429 t430 t431 t432 t433 true _ A35.out).mono ?_
        rintro e w47 ⟨rfl, hb⟩
        refine ⟨_, rfl, ?_⟩
        replace BK424 := bb_ BK424 hb
        replace BK435 := bb_ BK435 hb
        replace HB := bt_ HB hb
        try clear hb
        refine hK.out _ _ ⟨cz_ BK424 0, cz_ BK424 1, cz_ BK424 2, cz_ BK424 3, (clTr HB.out hw425_0 :), (clTr HB.out hw425_1 :), (clTr HB.out hw425_2 :), (clTr HB.out hw425_3 :)⟩ (fun hHeld => ?_)
        clear hK K
        refine nm_ (some 54) ?_
        refine px_ HT_ 9 45 5119 ?_
        refine px_ HT_ 10 55 6143 ?_
        refine px_ HT_ 11 56 8191 ?_
        exact norm_ (by simp only [putAll, Act.put, lstS, lstZ, lstC]) (hCont (gb435) _ ⟨hHeld, (bl_ BK424).out, (bl_ BK435).out, GW435.out, GW435.out, NB424_435.out, NB435_424.out, (bw_ HB).out⟩)
       skip
       refine bz_ 14 #[.int .i64 0, .int .i64 0, .int .i64 0, .bool false] 150 ?_
       intro gb435 hg w45 BK435 hb
       have GW435 := bs_ HB hg
       have NB424_435 := bm_ BK424 hg
       have NB435_424 := bn_ BK424 hg
       replace BK424 := bb_ BK424 hb
       replace HB := bt_ HB hb
       clear hb hg
       refine hK.out _ _ ⟨cz_ BK424 0, cz_ BK424 1, cz_ BK424 2, cz_ BK424 3, (clTr HB.out hw425_0 :), (clTr HB.out hw425_1 :), (clTr HB.out hw425_2 :), (clTr HB.out hw425_3 :)⟩ (fun hHeld => ?_)
       clear hK K
       refine nm_ (some 14) ?_
       refine on_ HT_ 7 (some 53) (bv_ 15 4351) (fun K hK => ?_)
       refine gs_ Try.func200 #[.agg #[.int .i64 ((rd_T150 l2 (ji31)).f0.f0), .int .i64 ((rd_T150 l2 (ji31)).f0.f1), .int .i64 ((rd_T150 l2 (ji31)).f0.f2), .bool ((rd_T150 l2 (ji31)).f1)]] ?_ (hargs := by (try simp only [List.map_toArray, List.map_cons, List.map_nil]); first | done | (simp only [hji31]; rfl) | rfl | (simp only [List.length_drop, List.length_take]; rfl))
       with_reducible refine (impl_opposite.calls ((rd_T150 l2 (ji31)).f0.f0) ((rd_T150 l2 (ji31)).f0.f1) ((rd_T150 l2 (ji31)).f0.f2) ((rd_T150 l2 (ji31)).f1) t426 t427 t428 t429 _ A34.out).mono ?_
       rintro e w46 ⟨rfl, hb⟩
       refine ⟨_, rfl, ?_⟩
       replace BK424 := bb_ BK424 hb
       replace BK435 := bb_ BK435 hb
       replace HB := bt_ HB hb
       try clear hb
       refine hK.out _ _ ⟨cz_ BK424 0, cz_ BK424 1, cz_ BK424 2, cz_ BK424 3, (clTr HB.out hw425_0 :), (clTr HB.out hw425_1 :), (clTr HB.out hw425_2 :), (clTr HB.out hw425_3 :)⟩ (fun hHeld => ?_)
       clear hK K
       refine nm_ (some 53) ?_
       refine on_ HT_ 8 (some 54) (bv_ 15 4607) (fun K hK => ?_)
       refine gs_ Try.func199 #[.int .i64 a0, .agg #[.int .i64 ((rd_T46 l1 x40_2).f0.f0), .int .i64 ((rd_T46 l1 x40_2).f0.f1), .int .i64 ((rd_T46 l1 x40_2).f1.f0), .int .i64 ((rd_T46 l1 x40_2).f1.f1)], .agg #[.int .i64 t426, .int .i64 t427, .int .i64 t428, .bool t429]] ?_
       with_reducible refine (impl_moveSide.calls k2 a0 ((rd_T46 l1 x40_2).f0.f0) ((rd_T46 l1 x40_2).f0.f1) ((rd_T46 l1 x40_2).f1.f0) ((rd_T46 l1 x40_2).f1.f1) t426 t427 t428 t429 t430 t431 t432 t433 true _ A35.out).mono ?_
       rintro e w47 ⟨rfl, hb⟩
       refine ⟨_, rfl, ?_⟩
       replace BK424 := bb_ BK424 hb
       replace BK435 := bb_ BK435 hb
       replace HB := bt_ HB hb
       try clear hb
       refine hK.out _ _ ⟨cz_ BK424 0, cz_ BK424 1, cz_ BK424 2, cz_ BK424 3, (clTr HB.out hw425_0 :), (clTr HB.out hw425_1 :), (clTr HB.out hw425_2 :), (clTr HB.out hw425_3 :)⟩ (fun hHeld => ?_)
       clear hK K
       refine nm_ (some 54) ?_
       refine px_ HT_ 9 45 5119 ?_
       refine px_ HT_ 10 55 6143 ?_
       refine px_ HT_ 11 56 8191 ?_
       exact norm_ (by simp only [putAll, Act.put, lstS, lstZ, lstC]) (hCont (gb435) _ ⟨hHeld, (bl_ BK424).out, (bl_ BK435).out, GW435.out, GW435.out, NB424_435.out, NB435_424.out, (bw_ HB).out⟩)
      rintro gb435 w48 ⟨hS_, h0_, h1_, h2_, h3_, h4_, h5_, h6_⟩
      clear BK424 HB
      have BK424 := Aside0.mk h0_
      have BK435 := Aside0.mk h1_
      have GW435 := Aside0.mk h2_
      have GW435 := Aside0.mk h3_
      have NB424_435 := Aside0.mk h4_
      have NB435_424 := Aside0.mk h5_
      have HB := Aside0.mk h6_
      clear h0_ h1_ h2_ h3_ h4_ h5_ h6_
      have hHeld : w48.cell? ⟨gb424, 0, none⟩ = some (.int .i64 ((rd_T46 l1 x40_2).f0.f0)) ∧ w48.cell? ⟨gb424, 1, none⟩ = some (.int .i64 ((rd_T46 l1 x40_2).f0.f1)) ∧ w48.cell? ⟨gb424, 2, none⟩ = some (.int .i64 ((rd_T46 l1 x40_2).f1.f0)) ∧ w48.cell? ⟨gb424, 3, none⟩ = some (.int .i64 ((rd_T46 l1 x40_2).f1.f1)) ∧ w48.cell? (ad425.add (((ji31)).toNat * 4)) = some (.int .i64 ((rd_T150 l2 (ji31)).f0.f0)) ∧ w48.cell? ⟨(ad425.add (((ji31)).toNat * 4)).block, (ad425.add (((ji31)).toNat * 4)).off + 1, none⟩ = some (.int .i64 ((rd_T150 l2 (ji31)).f0.f1)) ∧ w48.cell? ⟨(ad425.add (((ji31)).toNat * 4)).block, (ad425.add (((ji31)).toNat * 4)).off + 2, none⟩ = some (.int .i64 ((rd_T150 l2 (ji31)).f0.f2)) ∧ w48.cell? ⟨(ad425.add (((ji31)).toNat * 4)).block, (ad425.add (((ji31)).toNat * 4)).off + 3, none⟩ = some (.bool ((rd_T150 l2 (ji31)).f1)) := hS_
      refine norm_ (a' := ?_) ?_ ?_
      rotate_left
      ·simp only [putAll, Act.put, lstS, lstZ, lstC]
       rfl
      refine on_ HT_ 13 none (bv_ 15 16383) (fun K hK => ?_)
      have hs49 : w48.cell? ⟨gb435, 0, none⟩ = some (.int .i64 0) := (blk_cell BK435.out 0).trans rfl
      have hfs49 := blk_frozen BK435.out 0
      have hns49_0 := NB424_435.out
      have hms49_0 := NB435_424.out
      have hs50 : w48.cell? ⟨gb435, 1, none⟩ = some (.int .i64 0) := (blk_cell BK435.out 1).trans rfl
      have hfs50 := blk_frozen BK435.out 1
      have hns50_0 := NB424_435.out
      have hms50_0 := NB435_424.out
      have hs51 : w48.cell? ⟨gb435, 2, none⟩ = some (.int .i64 0) := (blk_cell BK435.out 2).trans rfl
      have hfs51 := blk_frozen BK435.out 2
      have hns51_0 := NB424_435.out
      have hms51_0 := NB435_424.out
      have hs52 : w48.cell? ⟨gb435, 3, none⟩ = some (.bool false) := (blk_cell BK435.out 3).trans rfl
      have hfs52 := blk_frozen BK435.out 3
      have hns52_0 := NB424_435.out
      have hms52_0 := NB435_424.out
      refine skip_ (w1 := ?_) (by rfl) rfl ?_ ?_
      rotate_left
      ·go_simp
       rfl
      refine hK.out _ _ ⟨(cg_ NB424_435 ((cg_ NB424_435 ((cg_ NB424_435 ((cg_ NB424_435 (hHeld.1)))))))), (cg_ NB424_435 ((cg_ NB424_435 ((cg_ NB424_435 ((cg_ NB424_435 (hHeld.2.1)))))))), (cg_ NB424_435 ((cg_ NB424_435 ((cg_ NB424_435 ((cg_ NB424_435 (hHeld.2.2.1)))))))), (cg_ NB424_435 ((cg_ NB424_435 ((cg_ NB424_435 ((cg_ NB424_435 (hHeld.2.2.2.1)))))))), (cf_ hw425_0 GW435 ((cf_ hw425_0 GW435 ((cf_ hw425_0 GW435 ((cf_ hw425_0 GW435 (hHeld.2.2.2.2.1)))))))), (cf_ hw425_1 GW435 ((cf_ hw425_1 GW435 ((cf_ hw425_1 GW435 ((cf_ hw425_1 GW435 (hHeld.2.2.2.2.2.1)))))))), (cf_ hw425_2 GW435 ((cf_ hw425_2 GW435 ((cf_ hw425_2 GW435 ((cf_ hw425_2 GW435 (hHeld.2.2.2.2.2.2.1)))))))), (cf_ hw425_3 GW435 ((cf_ hw425_3 GW435 ((cf_ hw425_3 GW435 ((cf_ hw425_3 GW435 (hHeld.2.2.2.2.2.2.2))))))))⟩ (fun hHeld => ?_)
      clear hK K
      refine px_ HT_ 14 15 32767 ?_
      refine done_ (done_of HT_.out (by kernel_rfl)) ?_
      try go_wp2
      have n0_ : Aside0 (((((w48.setCell ⟨gb435, 0, none⟩ (.int .i64 t430)).setCell ⟨gb435, 1, none⟩ (.int .i64 t431)).setCell ⟨gb435, 2, none⟩ (.int .i64 t432)).setCell ⟨gb435, 3, none⟩ (.bool t433)).heap[gb424]? = some (.cells #[.int .i64 ((rd_T46 l1 x40_2).f0.f0), .int .i64 ((rd_T46 l1 x40_2).f0.f1), .int .i64 ((rd_T46 l1 x40_2).f1.f0), .int .i64 ((rd_T46 l1 x40_2).f1.f1)] 46 (0, 0))) := fl_ BK424 NB424_435
      have n1_ : Aside0 (((((w48.setCell ⟨gb435, 0, none⟩ (.int .i64 t430)).setCell ⟨gb435, 1, none⟩ (.int .i64 t431)).setCell ⟨gb435, 2, none⟩ (.int .i64 t432)).setCell ⟨gb435, 3, none⟩ (.bool t433)).heap[gb435]? = some (.cells #[.int .i64 t430, .int .i64 t431, .int .i64 t432, .bool t433] 150 (0, 0))) := bp_ BK435
      have n2_ : Aside0 (Below w.heap.size w ((((w48.setCell ⟨gb435, 0, none⟩ (.int .i64 t430)).setCell ⟨gb435, 1, none⟩ (.int .i64 t431)).setCell ⟨gb435, 2, none⟩ (.int .i64 t432)).setCell ⟨gb435, 3, none⟩ (.bool t433))) := bw_ HB
      (try clear BK424)
      (try clear BK435)
      (try clear HB)
      generalize ((((w48.setCell ⟨gb435, 0, none⟩ (.int .i64 t430)).setCell ⟨gb435, 1, none⟩ (.int .i64 t431)).setCell ⟨gb435, 2, none⟩ (.int .i64 t432)).setCell ⟨gb435, 3, none⟩ (.bool t433)) = w53 at n0_ n1_ n2_ ⊢
      have BK424 := n0_
      have BK435 := n1_
      have HB := n2_
      clear n0_ n1_ n2_
      replace BK424 := bd_ BK424
      replace BK435 := bd_ BK435
      replace HB := be_ HB
      have p436 : 0 ≤ ((ji37) : Int) := od_
      have q436 : (ji37) < (l2.length : Int) := od_
      obtain ⟨ad436, e436, hx436_0, hx436_1, hx436_2, hx436_3⟩ := at_T150 HR2.out (ji37) p436 q436
      have hw436_3 := hx436_3
      have hw436_2 := hx436_2
      have hw436_1 := hx436_1
      have hw436_0 := hx436_0
      obtain rfl : ad425 = ad436 := (by injection e436)
      replace hx436_0 := clTr HB.out hx436_0
      replace hx436_1 := clTr HB.out hx436_1
      replace hx436_2 := clTr HB.out hx436_2
      replace hx436_3 := clTr HB.out hx436_3
      replace p436 := eq_true p436
      replace q436 := eq_true q436
      refine start_ (n := 9) (S := fun w' => w'.cell? ⟨gb435, 0, none⟩ = some (.int .i64 t430) ∧ w'.cell? ⟨gb435, 1, none⟩ = some (.int .i64 t431) ∧ w'.cell? ⟨gb435, 2, none⟩ = some (.int .i64 t432) ∧ w'.cell? ⟨gb435, 3, none⟩ = some (.bool t433) ∧ w'.cell? (ad425.add (((ji37)).toNat * 4)) = some (.int .i64 ((rd_T150 l2 (ji37)).f0.f0)) ∧ w'.cell? ⟨(ad425.add (((ji37)).toNat * 4)).block, (ad425.add (((ji37)).toNat * 4)).off + 1, none⟩ = some (.int .i64 ((rd_T150 l2 (ji37)).f0.f1)) ∧ w'.cell? ⟨(ad425.add (((ji37)).toNat * 4)).block, (ad425.add (((ji37)).toNat * 4)).off + 2, none⟩ = some (.int .i64 ((rd_T150 l2 (ji37)).f0.f2)) ∧ w'.cell? ⟨(ad425.add (((ji37)).toNat * 4)).block, (ad425.add (((ji37)).toNat * 4)).off + 3, none⟩ = some (.bool ((rd_T150 l2 (ji37)).f1))) (ds := []) (bv_ 9 0) (by kernel_rfl) rfl rfl ⟨cz_ BK435 0, cz_ BK435 1, cz_ BK435 2, cz_ BK435 3, (clTr HB.out hw436_0 :), (clTr HB.out hw436_1 :), (clTr HB.out hw436_2 :), (clTr HB.out hw436_3 :)⟩ (fun hHeld => ?_); refine with_tabW impl_isFree.tab17 impl_isFree.bits17 (fun HT_ HW_ => ?_)
      generalize w53.drew = w54 at BK424 BK435 HB hx436_0 hx436_1 hx436_2 hx436_3 hHeld ⊢
      refine px_ HT_ 1 62 2 ?_
      refine px_ HT_ 2 63 6 ?_
      refine px_ HT_ 3 64 14 ?_
      refine px_ HT_ 4 65 30 ?_
      refine px_ HT_ 5 66 62 ?_
      refine ta_ HT_ HW_ 0 (some 61) (bv_ 9 63) hHeld ?_ (hy := by rintro w' ⟨s0, s1, s2, s3, s4, s5, s6, s7⟩; go_simp; with_reducible rfl)
      refine ta_ HT_ HW_ 6 (some 67) (bv_ 9 127) hHeld ?_ (hy := by rintro w' ⟨s0, s1, s2, s3, s4, s5, s6, s7⟩; go_simp; with_reducible rfl)
      refine px_ HT_ 7 68 255 ?_
      refine px_ HT_ 8 60 511 ?_
      refine done_ (done_of HT_.out (by kernel_rfl)) ?_
      try go_wp2
      go_ret2
      exact ⟨by first | rfl | (simp [errW_none, errW_some] <;> rfl) | (simp only [← hji31, ← hji37]; first | rfl | (simp [errW_none, errW_some] <;> rfl)) | (simp [*, errW_none, errW_some] <;> rfl), (bw_ HB).out⟩
     rw [if_neg c40] at H
     have c40b0 : ((!(t430 == ((rd_T150 l2 (ji37)).f0.f0)) || (!(t431 == ((rd_T150 l2 (ji37)).f0.f1)) || (!(t432 == ((rd_T150 l2 (ji37)).f0.f2))))) || (!(t433 == ((rd_T150 l2 (ji37)).f1)))) = false := by simpa using c40
     clear c40
     have H' := Aside0.mk H
     clear H
     have p423 : 0 ≤ (x40_2 : Int) := od_
     have q423 : x40_2 < (l1.length : Int) := od_
     obtain ⟨ad423, e423, hx423_0, hx423_1, hx423_2, hx423_3⟩ := at_T46 HR1.out x40_2 p423 q423
     cases e423
     replace hx423_0 := clTr HB.out hx423_0
     replace hx423_1 := clTr HB.out hx423_1
     replace hx423_2 := clTr HB.out hx423_2
     replace hx423_3 := clTr HB.out hx423_3
     replace p423 := eq_true p423
     replace q423 := eq_true q423
     try go_wp2_with (first | ((refine gd_ 13 ?_); refine by_ 13 #[.int .i64 0, .int .i64 0, .int .i64 0, .int .i64 0] 46 HB ?_; intro gb424 hg w55 BK424 hb GW424 HB_; replace HB := HB_; clear hb hg; obtain ⟨hcz56_0, hcz56_1, hcz56_2, hcz56_3, hfz56_0, hfz56_1, hfz56_2, hfz56_3⟩ := ch4_ BK424))
     have n0_ : Aside0 (((((w55.setCell ⟨gb424, 0, none⟩ (.int .i64 ((rd_T46 l1 x40_2).f0.f0))).setCell ⟨gb424, 1, none⟩ (.int .i64 ((rd_T46 l1 x40_2).f0.f1))).setCell ⟨gb424, 2, none⟩ (.int .i64 ((rd_T46 l1 x40_2).f1.f0))).setCell ⟨gb424, 3, none⟩ (.int .i64 ((rd_T46 l1 x40_2).f1.f1))).heap[gb424]? = some (.cells #[.int .i64 ((rd_T46 l1 x40_2).f0.f0), .int .i64 ((rd_T46 l1 x40_2).f0.f1), .int .i64 ((rd_T46 l1 x40_2).f1.f0), .int .i64 ((rd_T46 l1 x40_2).f1.f1)] 46 (0, 0))) := bp_ BK424
     have n1_ : Aside0 (Below w.heap.size w ((((w55.setCell ⟨gb424, 0, none⟩ (.int .i64 ((rd_T46 l1 x40_2).f0.f0))).setCell ⟨gb424, 1, none⟩ (.int .i64 ((rd_T46 l1 x40_2).f0.f1))).setCell ⟨gb424, 2, none⟩ (.int .i64 ((rd_T46 l1 x40_2).f1.f0))).setCell ⟨gb424, 3, none⟩ (.int .i64 ((rd_T46 l1 x40_2).f1.f1)))) := bw_ HB
     (try clear BK424)
     (try clear HB)
     generalize ((((w55.setCell ⟨gb424, 0, none⟩ (.int .i64 ((rd_T46 l1 x40_2).f0.f0))).setCell ⟨gb424, 1, none⟩ (.int .i64 ((rd_T46 l1 x40_2).f0.f1))).setCell ⟨gb424, 2, none⟩ (.int .i64 ((rd_T46 l1 x40_2).f1.f0))).setCell ⟨gb424, 3, none⟩ (.int .i64 ((rd_T46 l1 x40_2).f1.f1))) = w57 at n0_ n1_ ⊢
     have BK424 := n0_
     have HB := n1_
     clear n0_ n1_
     replace BK424 := bd_ BK424
     replace HB := be_ HB
     have p425 : 0 ≤ ((ji31) : Int) := od_
     have q425 : (ji31) < (l2.length : Int) := od_
     obtain ⟨ad425, e425, hx425_0, hx425_1, hx425_2, hx425_3⟩ := at_T150 HR2.out (ji31) p425 q425
     have hw425_3 := hx425_3
     have hw425_2 := hx425_2
     have hw425_1 := hx425_1
     have hw425_0 := hx425_0
     cases e425
     replace hx425_0 := clTr HB.out hx425_0
     replace hx425_1 := clTr HB.out hx425_1
     replace hx425_2 := clTr HB.out hx425_2
     replace hx425_3 := clTr HB.out hx425_3
     replace p425 := eq_true p425
     replace q425 := eq_true q425
     refine start_ (n := 15) (S := fun w' => w'.cell? ⟨gb424, 0, none⟩ = some (.int .i64 ((rd_T46 l1 x40_2).f0.f0)) ∧ w'.cell? ⟨gb424, 1, none⟩ = some (.int .i64 ((rd_T46 l1 x40_2).f0.f1)) ∧ w'.cell? ⟨gb424, 2, none⟩ = some (.int .i64 ((rd_T46 l1 x40_2).f1.f0)) ∧ w'.cell? ⟨gb424, 3, none⟩ = some (.int .i64 ((rd_T46 l1 x40_2).f1.f1)) ∧ w'.cell? (ad425.add (((ji31)).toNat * 4)) = some (.int .i64 ((rd_T150 l2 (ji31)).f0.f0)) ∧ w'.cell? ⟨(ad425.add (((ji31)).toNat * 4)).block, (ad425.add (((ji31)).toNat * 4)).off + 1, none⟩ = some (.int .i64 ((rd_T150 l2 (ji31)).f0.f1)) ∧ w'.cell? ⟨(ad425.add (((ji31)).toNat * 4)).block, (ad425.add (((ji31)).toNat * 4)).off + 2, none⟩ = some (.int .i64 ((rd_T150 l2 (ji31)).f0.f2)) ∧ w'.cell? ⟨(ad425.add (((ji31)).toNat * 4)).block, (ad425.add (((ji31)).toNat * 4)).off + 3, none⟩ = some (.bool ((rd_T150 l2 (ji31)).f1))) (ds := []) (bv_ 15 0) (by kernel_rfl) rfl rfl ⟨cz_ BK424 0, cz_ BK424 1, cz_ BK424 2, cz_ BK424 3, (clTr HB.out hw425_0 :), (clTr HB.out hw425_1 :), (clTr HB.out hw425_2 :), (clTr HB.out hw425_3 :)⟩ (fun hHeld => ?_); refine with_tabW impl_isFree.tab14 impl_isFree.bits14 (fun HT_ HW_ => ?_)
     generalize w57.drew = w58 at BK424 HB hx425_0 hx425_1 hx425_2 hx425_3 hHeld ⊢
     refine px_ HT_ 0 46 1 ?_
     refine px_ HT_ 2 48 5 ?_
     refine px_ HT_ 3 49 13 ?_
     refine px_ HT_ 4 50 29 ?_
     refine px_ HT_ 5 51 61 ?_
     refine ta_ HT_ HW_ 1 (some 47) (bv_ 15 63) hHeld ?_ (hy := by rintro w' ⟨s0, s1, s2, s3, s4, s5, s6, s7⟩; go_simp; with_reducible rfl)
     refine ta_ HT_ HW_ 6 (some 52) (bv_ 15 127) hHeld ?_ (hy := by rintro w' ⟨s0, s1, s2, s3, s4, s5, s6, s7⟩; go_simp; with_reducible rfl)
     refine join_ (σ := Nat) 2 (bv_ 15 8191) (fun s_ => [(53, .agg #[.int .i64 t426, .int .i64 t427, .int .i64 t428, .bool t429]), (54, .tuple #[.agg #[.int .i64 t430, .int .i64 t431, .int .i64 t432, .bool t433], .bool true]), (14, .pointer (some ⟨s_, 0, none⟩)), (45, .tuple #[.agg #[.int .i64 t430, .int .i64 t431, .int .i64 t432, .bool t433], .bool true]), (55, .agg #[.int .i64 t430, .int .i64 t431, .int .i64 t432, .bool t433]), (56, .bool true)]) (fun s_ w' => (w'.cell? ⟨gb424, 0, none⟩ = some (.int .i64 ((rd_T46 l1 x40_2).f0.f0)) ∧ w'.cell? ⟨gb424, 1, none⟩ = some (.int .i64 ((rd_T46 l1 x40_2).f0.f1)) ∧ w'.cell? ⟨gb424, 2, none⟩ = some (.int .i64 ((rd_T46 l1 x40_2).f1.f0)) ∧ w'.cell? ⟨gb424, 3, none⟩ = some (.int .i64 ((rd_T46 l1 x40_2).f1.f1)) ∧ w'.cell? (ad425.add (((ji31)).toNat * 4)) = some (.int .i64 ((rd_T150 l2 (ji31)).f0.f0)) ∧ w'.cell? ⟨(ad425.add (((ji31)).toNat * 4)).block, (ad425.add (((ji31)).toNat * 4)).off + 1, none⟩ = some (.int .i64 ((rd_T150 l2 (ji31)).f0.f1)) ∧ w'.cell? ⟨(ad425.add (((ji31)).toNat * 4)).block, (ad425.add (((ji31)).toNat * 4)).off + 2, none⟩ = some (.int .i64 ((rd_T150 l2 (ji31)).f0.f2)) ∧ w'.cell? ⟨(ad425.add (((ji31)).toNat * 4)).block, (ad425.add (((ji31)).toNat * 4)).off + 3, none⟩ = some (.bool ((rd_T150 l2 (ji31)).f1))) ∧ (w'.heap[gb424]? = some (.cells #[.int .i64 ((rd_T46 l1 x40_2).f0.f0), .int .i64 ((rd_T46 l1 x40_2).f0.f1), .int .i64 ((rd_T46 l1 x40_2).f1.f0), .int .i64 ((rd_T46 l1 x40_2).f1.f1)] 46 (0, 0))) ∧ (w'.heap[s_]? = some (.cells #[.int .i64 0, .int .i64 0, .int .i64 0, .bool false] 150 (0, 0))) ∧ (w.heap.size ≤ s_) ∧ (w.heap.size ≤ s_) ∧ (gb424 ≠ s_) ∧ (s_ ≠ gb424) ∧ (Below w.heap.size w w')) ?_ ?_
     rotate_left
     ·intro hCont
      refine tw_ HT_ 7 12 (some 53) (some 14) (bv_ 15 255) (bv_ 15 4223) (fun K hK => ?_) (fun K hK => ?_)
      ·skip
       refine gs_ Try.func200 #[.agg #[.int .i64 ((rd_T150 l2 (ji31)).f0.f0), .int .i64 ((rd_T150 l2 (ji31)).f0.f1), .int .i64 ((rd_T150 l2 (ji31)).f0.f2), .bool ((rd_T150 l2 (ji31)).f1)]] ?_ (hargs := by (try simp only [List.map_toArray, List.map_cons, List.map_nil]); first | done | (simp only [hji31]; rfl) | rfl | (simp only [List.length_drop, List.length_take]; rfl))
       with_reducible refine (impl_opposite.calls ((rd_T150 l2 (ji31)).f0.f0) ((rd_T150 l2 (ji31)).f0.f1) ((rd_T150 l2 (ji31)).f0.f2) ((rd_T150 l2 (ji31)).f1) t426 t427 t428 t429 _ A34.out).mono ?_
       rintro e w59 ⟨rfl, hb⟩
       refine ⟨_, rfl, ?_⟩
       replace BK424 := bb_ BK424 hb
       replace HB := bt_ HB hb
       try clear hb
       refine hK.out _ _ ⟨cz_ BK424 0, cz_ BK424 1, cz_ BK424 2, cz_ BK424 3, (clTr HB.out hw425_0 :), (clTr HB.out hw425_1 :), (clTr HB.out hw425_2 :), (clTr HB.out hw425_3 :)⟩ (fun hHeld => ?_)
       clear hK K
       refine nm_ (some 53) ?_
       refine tw_ HT_ 8 12 (some 54) (some 14) (bv_ 15 511) (bv_ 15 4351) (fun K hK => ?_) (fun K hK => ?_)
       ·skip
        refine gs_ Try.func199 #[.int .i64 a0, .agg #[.int .i64 ((rd_T46 l1 x40_2).f0.f0), .int .i64 ((rd_T46 l1 x40_2).f0.f1), .int .i64 ((rd_T46 l1 x40_2).f1.f0), .int .i64 ((rd_T46 l1 x40_2).f1.f1)], .agg #[.int .i64 t426, .int .i64 t427, .int .i64 t428, .bool t429]] ?_
        with_reducible refine (impl_moveSide.calls k2 a0 ((rd_T46 l1 x40_2).f0.f0) ((rd_T46 l1 x40_2).f0.f1) ((rd_T46 l1 x40_2).f1.f0) ((rd_T46 l1 x40_2).f1.f1) t426 t427 t428 t429 t430 t431 t432 t433 true _ A35.out).mono ?_
        rintro e w60 ⟨rfl, hb⟩
        refine ⟨_, rfl, ?_⟩
        replace BK424 := bb_ BK424 hb
        replace HB := bt_ HB hb
        try clear hb
        refine hK.out _ _ ⟨cz_ BK424 0, cz_ BK424 1, cz_ BK424 2, cz_ BK424 3, (clTr HB.out hw425_0 :), (clTr HB.out hw425_1 :), (clTr HB.out hw425_2 :), (clTr HB.out hw425_3 :)⟩ (fun hHeld => ?_)
        clear hK K
        refine nm_ (some 54) ?_
        refine px_ HT_ 9 45 1023 ?_
        refine px_ HT_ 10 55 2047 ?_
        refine px_ HT_ 11 56 4095 ?_
        refine on_ HT_ 12 (some 14) (bv_ 15 8191) (fun K hK => ?_)
        refine bz_ 14 #[.int .i64 0, .int .i64 0, .int .i64 0, .bool false] 150 ?_
        intro gb435 hg w61 BK435 hb
        have GW435 := bs_ HB hg
        have NB424_435 := bm_ BK424 hg
        have NB435_424 := bn_ BK424 hg
        replace BK424 := bb_ BK424 hb
        replace HB := bt_ HB hb
        clear hb hg
        refine hK.out _ _ ⟨cz_ BK424 0, cz_ BK424 1, cz_ BK424 2, cz_ BK424 3, (clTr HB.out hw425_0 :), (clTr HB.out hw425_1 :), (clTr HB.out hw425_2 :), (clTr HB.out hw425_3 :)⟩ (fun hHeld => ?_)
        clear hK K
        refine nm_ (some 14) ?_
        exact norm_ (by simp only [putAll, Act.put, lstS, lstZ, lstC]) (hCont (gb435) _ ⟨hHeld, (bl_ BK424).out, (bl_ BK435).out, GW435.out, GW435.out, NB424_435.out, NB435_424.out, (bw_ HB).out⟩)
       skip
       refine bz_ 14 #[.int .i64 0, .int .i64 0, .int .i64 0, .bool false] 150 ?_
       intro gb435 hg w60 BK435 hb
       have GW435 := bs_ HB hg
       have NB424_435 := bm_ BK424 hg
       have NB435_424 := bn_ BK424 hg
       replace BK424 := bb_ BK424 hb
       replace HB := bt_ HB hb
       clear hb hg
       refine hK.out _ _ ⟨cz_ BK424 0, cz_ BK424 1, cz_ BK424 2, cz_ BK424 3, (clTr HB.out hw425_0 :), (clTr HB.out hw425_1 :), (clTr HB.out hw425_2 :), (clTr HB.out hw425_3 :)⟩ (fun hHeld => ?_)
       clear hK K
       refine nm_ (some 14) ?_
       refine on_ HT_ 8 (some 54) (bv_ 15 4607) (fun K hK => ?_)
       refine gs_ Try.func199 #[.int .i64 a0, .agg #[.int .i64 ((rd_T46 l1 x40_2).f0.f0), .int .i64 ((rd_T46 l1 x40_2).f0.f1), .int .i64 ((rd_T46 l1 x40_2).f1.f0), .int .i64 ((rd_T46 l1 x40_2).f1.f1)], .agg #[.int .i64 t426, .int .i64 t427, .int .i64 t428, .bool t429]] ?_
       with_reducible refine (impl_moveSide.calls k2 a0 ((rd_T46 l1 x40_2).f0.f0) ((rd_T46 l1 x40_2).f0.f1) ((rd_T46 l1 x40_2).f1.f0) ((rd_T46 l1 x40_2).f1.f1) t426 t427 t428 t429 t430 t431 t432 t433 true _ A35.out).mono ?_
       rintro e w61 ⟨rfl, hb⟩
       refine ⟨_, rfl, ?_⟩
       replace BK424 := bb_ BK424 hb
       replace BK435 := bb_ BK435 hb
       replace HB := bt_ HB hb
       try clear hb
       refine hK.out _ _ ⟨cz_ BK424 0, cz_ BK424 1, cz_ BK424 2, cz_ BK424 3, (clTr HB.out hw425_0 :), (clTr HB.out hw425_1 :), (clTr HB.out hw425_2 :), (clTr HB.out hw425_3 :)⟩ (fun hHeld => ?_)
       clear hK K
       refine nm_ (some 54) ?_
       refine px_ HT_ 9 45 5119 ?_
       refine px_ HT_ 10 55 6143 ?_
       refine px_ HT_ 11 56 8191 ?_
       exact norm_ (by simp only [putAll, Act.put, lstS, lstZ, lstC]) (hCont (gb435) _ ⟨hHeld, (bl_ BK424).out, (bl_ BK435).out, GW435.out, GW435.out, NB424_435.out, NB435_424.out, (bw_ HB).out⟩)
      skip
      refine bz_ 14 #[.int .i64 0, .int .i64 0, .int .i64 0, .bool false] 150 ?_
      intro gb435 hg w59 BK435 hb
      have GW435 := bs_ HB hg
      have NB424_435 := bm_ BK424 hg
      have NB435_424 := bn_ BK424 hg
      replace BK424 := bb_ BK424 hb
      replace HB := bt_ HB hb
      clear hb hg
      refine hK.out _ _ ⟨cz_ BK424 0, cz_ BK424 1, cz_ BK424 2, cz_ BK424 3, (clTr HB.out hw425_0 :), (clTr HB.out hw425_1 :), (clTr HB.out hw425_2 :), (clTr HB.out hw425_3 :)⟩ (fun hHeld => ?_)
      clear hK K
      refine nm_ (some 14) ?_
      refine on_ HT_ 7 (some 53) (bv_ 15 4351) (fun K hK => ?_)
      refine gs_ Try.func200 #[.agg #[.int .i64 ((rd_T150 l2 (ji31)).f0.f0), .int .i64 ((rd_T150 l2 (ji31)).f0.f1), .int .i64 ((rd_T150 l2 (ji31)).f0.f2), .bool ((rd_T150 l2 (ji31)).f1)]] ?_ (hargs := by (try simp only [List.map_toArray, List.map_cons, List.map_nil]); first | done | (simp only [hji31]; rfl) | rfl | (simp only [List.length_drop, List.length_take]; rfl))
      with_reducible refine (impl_opposite.calls ((rd_T150 l2 (ji31)).f0.f0) ((rd_T150 l2 (ji31)).f0.f1) ((rd_T150 l2 (ji31)).f0.f2) ((rd_T150 l2 (ji31)).f1) t426 t427 t428 t429 _ A34.out).mono ?_
      rintro e w60 ⟨rfl, hb⟩
      refine ⟨_, rfl, ?_⟩
      replace BK424 := bb_ BK424 hb
      replace BK435 := bb_ BK435 hb
      replace HB := bt_ HB hb
      try clear hb
      refine hK.out _ _ ⟨cz_ BK424 0, cz_ BK424 1, cz_ BK424 2, cz_ BK424 3, (clTr HB.out hw425_0 :), (clTr HB.out hw425_1 :), (clTr HB.out hw425_2 :), (clTr HB.out hw425_3 :)⟩ (fun hHeld => ?_)
      clear hK K
      refine nm_ (some 53) ?_
      refine on_ HT_ 8 (some 54) (bv_ 15 4607) (fun K hK => ?_)
      refine gs_ Try.func199 #[.int .i64 a0, .agg #[.int .i64 ((rd_T46 l1 x40_2).f0.f0), .int .i64 ((rd_T46 l1 x40_2).f0.f1), .int .i64 ((rd_T46 l1 x40_2).f1.f0), .int .i64 ((rd_T46 l1 x40_2).f1.f1)], .agg #[.int .i64 t426, .int .i64 t427, .int .i64 t428, .bool t429]] ?_
      with_reducible refine (impl_moveSide.calls k2 a0 ((rd_T46 l1 x40_2).f0.f0) ((rd_T46 l1 x40_2).f0.f1) ((rd_T46 l1 x40_2).f1.f0) ((rd_T46 l1 x40_2).f1.f1) t426 t427 t428 t429 t430 t431 t432 t433 true _ A35.out).mono ?_
      rintro e w61 ⟨rfl, hb⟩
      refine ⟨_, rfl, ?_⟩
      replace BK424 := bb_ BK424 hb
      replace BK435 := bb_ BK435 hb
      replace HB := bt_ HB hb
      try clear hb
      refine hK.out _ _ ⟨cz_ BK424 0, cz_ BK424 1, cz_ BK424 2, cz_ BK424 3, (clTr HB.out hw425_0 :), (clTr HB.out hw425_1 :), (clTr HB.out hw425_2 :), (clTr HB.out hw425_3 :)⟩ (fun hHeld => ?_)
      clear hK K
      refine nm_ (some 54) ?_
      refine px_ HT_ 9 45 5119 ?_
      refine px_ HT_ 10 55 6143 ?_
      refine px_ HT_ 11 56 8191 ?_
      exact norm_ (by simp only [putAll, Act.put, lstS, lstZ, lstC]) (hCont (gb435) _ ⟨hHeld, (bl_ BK424).out, (bl_ BK435).out, GW435.out, GW435.out, NB424_435.out, NB435_424.out, (bw_ HB).out⟩)
     rintro gb435 w62 ⟨hS_, h0_, h1_, h2_, h3_, h4_, h5_, h6_⟩
     clear BK424 HB
     have BK424 := Aside0.mk h0_
     have BK435 := Aside0.mk h1_
     have GW435 := Aside0.mk h2_
     have GW435 := Aside0.mk h3_
     have NB424_435 := Aside0.mk h4_
     have NB435_424 := Aside0.mk h5_
     have HB := Aside0.mk h6_
     clear h0_ h1_ h2_ h3_ h4_ h5_ h6_
     have hHeld : w62.cell? ⟨gb424, 0, none⟩ = some (.int .i64 ((rd_T46 l1 x40_2).f0.f0)) ∧ w62.cell? ⟨gb424, 1, none⟩ = some (.int .i64 ((rd_T46 l1 x40_2).f0.f1)) ∧ w62.cell? ⟨gb424, 2, none⟩ = some (.int .i64 ((rd_T46 l1 x40_2).f1.f0)) ∧ w62.cell? ⟨gb424, 3, none⟩ = some (.int .i64 ((rd_T46 l1 x40_2).f1.f1)) ∧ w62.cell? (ad425.add (((ji31)).toNat * 4)) = some (.int .i64 ((rd_T150 l2 (ji31)).f0.f0)) ∧ w62.cell? ⟨(ad425.add (((ji31)).toNat * 4)).block, (ad425.add (((ji31)).toNat * 4)).off + 1, none⟩ = some (.int .i64 ((rd_T150 l2 (ji31)).f0.f1)) ∧ w62.cell? ⟨(ad425.add (((ji31)).toNat * 4)).block, (ad425.add (((ji31)).toNat * 4)).off + 2, none⟩ = some (.int .i64 ((rd_T150 l2 (ji31)).f0.f2)) ∧ w62.cell? ⟨(ad425.add (((ji31)).toNat * 4)).block, (ad425.add (((ji31)).toNat * 4)).off + 3, none⟩ = some (.bool ((rd_T150 l2 (ji31)).f1)) := hS_
     refine norm_ (a' := ?_) ?_ ?_
     rotate_left
     ·simp only [putAll, Act.put, lstS, lstZ, lstC]
      rfl
     refine on_ HT_ 13 none (bv_ 15 16383) (fun K hK => ?_)
     have hs63 : w62.cell? ⟨gb435, 0, none⟩ = some (.int .i64 0) := (blk_cell BK435.out 0).trans rfl
     have hfs63 := blk_frozen BK435.out 0
     have hns63_0 := NB424_435.out
     have hms63_0 := NB435_424.out
     have hs64 : w62.cell? ⟨gb435, 1, none⟩ = some (.int .i64 0) := (blk_cell BK435.out 1).trans rfl
     have hfs64 := blk_frozen BK435.out 1
     have hns64_0 := NB424_435.out
     have hms64_0 := NB435_424.out
     have hs65 : w62.cell? ⟨gb435, 2, none⟩ = some (.int .i64 0) := (blk_cell BK435.out 2).trans rfl
     have hfs65 := blk_frozen BK435.out 2
     have hns65_0 := NB424_435.out
     have hms65_0 := NB435_424.out
     have hs66 : w62.cell? ⟨gb435, 3, none⟩ = some (.bool false) := (blk_cell BK435.out 3).trans rfl
     have hfs66 := blk_frozen BK435.out 3
     have hns66_0 := NB424_435.out
     have hms66_0 := NB435_424.out
     refine skip_ (w1 := ?_) (by rfl) rfl ?_ ?_
     rotate_left
     ·go_simp
      rfl
     refine hK.out _ _ ⟨(cg_ NB424_435 ((cg_ NB424_435 ((cg_ NB424_435 ((cg_ NB424_435 (hHeld.1)))))))), (cg_ NB424_435 ((cg_ NB424_435 ((cg_ NB424_435 ((cg_ NB424_435 (hHeld.2.1)))))))), (cg_ NB424_435 ((cg_ NB424_435 ((cg_ NB424_435 ((cg_ NB424_435 (hHeld.2.2.1)))))))), (cg_ NB424_435 ((cg_ NB424_435 ((cg_ NB424_435 ((cg_ NB424_435 (hHeld.2.2.2.1)))))))), (cf_ hw425_0 GW435 ((cf_ hw425_0 GW435 ((cf_ hw425_0 GW435 ((cf_ hw425_0 GW435 (hHeld.2.2.2.2.1)))))))), (cf_ hw425_1 GW435 ((cf_ hw425_1 GW435 ((cf_ hw425_1 GW435 ((cf_ hw425_1 GW435 (hHeld.2.2.2.2.2.1)))))))), (cf_ hw425_2 GW435 ((cf_ hw425_2 GW435 ((cf_ hw425_2 GW435 ((cf_ hw425_2 GW435 (hHeld.2.2.2.2.2.2.1)))))))), (cf_ hw425_3 GW435 ((cf_ hw425_3 GW435 ((cf_ hw425_3 GW435 ((cf_ hw425_3 GW435 (hHeld.2.2.2.2.2.2.2))))))))⟩ (fun hHeld => ?_)
     clear hK K
     refine px_ HT_ 14 15 32767 ?_
     refine done_ (done_of HT_.out (by kernel_rfl)) ?_
     try go_wp2
     have n0_ : Aside0 (((((w62.setCell ⟨gb435, 0, none⟩ (.int .i64 t430)).setCell ⟨gb435, 1, none⟩ (.int .i64 t431)).setCell ⟨gb435, 2, none⟩ (.int .i64 t432)).setCell ⟨gb435, 3, none⟩ (.bool t433)).heap[gb424]? = some (.cells #[.int .i64 ((rd_T46 l1 x40_2).f0.f0), .int .i64 ((rd_T46 l1 x40_2).f0.f1), .int .i64 ((rd_T46 l1 x40_2).f1.f0), .int .i64 ((rd_T46 l1 x40_2).f1.f1)] 46 (0, 0))) := fl_ BK424 NB424_435
     have n1_ : Aside0 (((((w62.setCell ⟨gb435, 0, none⟩ (.int .i64 t430)).setCell ⟨gb435, 1, none⟩ (.int .i64 t431)).setCell ⟨gb435, 2, none⟩ (.int .i64 t432)).setCell ⟨gb435, 3, none⟩ (.bool t433)).heap[gb435]? = some (.cells #[.int .i64 t430, .int .i64 t431, .int .i64 t432, .bool t433] 150 (0, 0))) := bp_ BK435
     have n2_ : Aside0 (Below w.heap.size w ((((w62.setCell ⟨gb435, 0, none⟩ (.int .i64 t430)).setCell ⟨gb435, 1, none⟩ (.int .i64 t431)).setCell ⟨gb435, 2, none⟩ (.int .i64 t432)).setCell ⟨gb435, 3, none⟩ (.bool t433))) := bw_ HB
     (try clear BK424)
     (try clear BK435)
     (try clear HB)
     generalize ((((w62.setCell ⟨gb435, 0, none⟩ (.int .i64 t430)).setCell ⟨gb435, 1, none⟩ (.int .i64 t431)).setCell ⟨gb435, 2, none⟩ (.int .i64 t432)).setCell ⟨gb435, 3, none⟩ (.bool t433)) = w67 at n0_ n1_ n2_ ⊢
     have BK424 := n0_
     have BK435 := n1_
     have HB := n2_
     clear n0_ n1_ n2_
     replace BK424 := bd_ BK424
     replace BK435 := bd_ BK435
     replace HB := be_ HB
     have p436 : 0 ≤ ((ji37) : Int) := od_
     have q436 : (ji37) < (l2.length : Int) := od_
     obtain ⟨ad436, e436, hx436_0, hx436_1, hx436_2, hx436_3⟩ := at_T150 HR2.out (ji37) p436 q436
     have hw436_3 := hx436_3
     have hw436_2 := hx436_2
     have hw436_1 := hx436_1
     have hw436_0 := hx436_0
     obtain rfl : ad425 = ad436 := (by injection e436)
     replace hx436_0 := clTr HB.out hx436_0
     replace hx436_1 := clTr HB.out hx436_1
     replace hx436_2 := clTr HB.out hx436_2
     replace hx436_3 := clTr HB.out hx436_3
     replace p436 := eq_true p436
     replace q436 := eq_true q436
     refine start_ (n := 9) (S := fun w' => w'.cell? ⟨gb435, 0, none⟩ = some (.int .i64 t430) ∧ w'.cell? ⟨gb435, 1, none⟩ = some (.int .i64 t431) ∧ w'.cell? ⟨gb435, 2, none⟩ = some (.int .i64 t432) ∧ w'.cell? ⟨gb435, 3, none⟩ = some (.bool t433) ∧ w'.cell? (ad425.add (((ji37)).toNat * 4)) = some (.int .i64 ((rd_T150 l2 (ji37)).f0.f0)) ∧ w'.cell? ⟨(ad425.add (((ji37)).toNat * 4)).block, (ad425.add (((ji37)).toNat * 4)).off + 1, none⟩ = some (.int .i64 ((rd_T150 l2 (ji37)).f0.f1)) ∧ w'.cell? ⟨(ad425.add (((ji37)).toNat * 4)).block, (ad425.add (((ji37)).toNat * 4)).off + 2, none⟩ = some (.int .i64 ((rd_T150 l2 (ji37)).f0.f2)) ∧ w'.cell? ⟨(ad425.add (((ji37)).toNat * 4)).block, (ad425.add (((ji37)).toNat * 4)).off + 3, none⟩ = some (.bool ((rd_T150 l2 (ji37)).f1))) (ds := []) (bv_ 9 0) (by kernel_rfl) rfl rfl ⟨cz_ BK435 0, cz_ BK435 1, cz_ BK435 2, cz_ BK435 3, (clTr HB.out hw436_0 :), (clTr HB.out hw436_1 :), (clTr HB.out hw436_2 :), (clTr HB.out hw436_3 :)⟩ (fun hHeld => ?_); refine with_tabW impl_isFree.tab17 impl_isFree.bits17 (fun HT_ HW_ => ?_)
     generalize w67.drew = w68 at BK424 BK435 HB hx436_0 hx436_1 hx436_2 hx436_3 hHeld ⊢
     refine px_ HT_ 1 62 2 ?_
     refine px_ HT_ 2 63 6 ?_
     refine px_ HT_ 3 64 14 ?_
     refine px_ HT_ 4 65 30 ?_
     refine px_ HT_ 5 66 62 ?_
     refine ta_ HT_ HW_ 0 (some 61) (bv_ 9 63) hHeld ?_ (hy := by rintro w' ⟨s0, s1, s2, s3, s4, s5, s6, s7⟩; go_simp; with_reducible rfl)
     refine ta_ HT_ HW_ 6 (some 67) (bv_ 9 127) hHeld ?_ (hy := by rintro w' ⟨s0, s1, s2, s3, s4, s5, s6, s7⟩; go_simp; with_reducible rfl)
     refine px_ HT_ 7 68 255 ?_
     refine px_ HT_ 8 60 511 ?_
     refine done_ (done_of HT_.out (by kernel_rfl)) ?_
     try go_wp2
     go_roundg k2
     case measure => have := HK1.out; have := HK2.out; omega
     case rel => exact ⟨(wrap64 (x40_2 + 1)), en_, H', ⟨by have := HK1.out; have := HK2.out; omega⟩, bw_ HB⟩
    simp only [Option.some.injEq, Prod.mk.injEq] at H
    obtain ⟨rfl, rfl⟩ := H
    have p423 : 0 ≤ (x40_2 : Int) := od_
    have q423 : x40_2 < (l1.length : Int) := od_
    obtain ⟨ad423, e423, hx423_0, hx423_1, hx423_2, hx423_3⟩ := at_T46 HR1.out x40_2 p423 q423
    cases e423
    replace hx423_0 := clTr HB.out hx423_0
    replace hx423_1 := clTr HB.out hx423_1
    replace hx423_2 := clTr HB.out hx423_2
    replace hx423_3 := clTr HB.out hx423_3
    replace p423 := eq_true p423
    replace q423 := eq_true q423
    try go_wp2_with (first | ((refine gd_ 13 ?_); refine by_ 13 #[.int .i64 0, .int .i64 0, .int .i64 0, .int .i64 0] 46 HB ?_; intro gb424 hg w69 BK424 hb GW424 HB_; replace HB := HB_; clear hb hg; obtain ⟨hcz70_0, hcz70_1, hcz70_2, hcz70_3, hfz70_0, hfz70_1, hfz70_2, hfz70_3⟩ := ch4_ BK424))
    have n0_ : Aside0 (((((w69.setCell ⟨gb424, 0, none⟩ (.int .i64 ((rd_T46 l1 x40_2).f0.f0))).setCell ⟨gb424, 1, none⟩ (.int .i64 ((rd_T46 l1 x40_2).f0.f1))).setCell ⟨gb424, 2, none⟩ (.int .i64 ((rd_T46 l1 x40_2).f1.f0))).setCell ⟨gb424, 3, none⟩ (.int .i64 ((rd_T46 l1 x40_2).f1.f1))).heap[gb424]? = some (.cells #[.int .i64 ((rd_T46 l1 x40_2).f0.f0), .int .i64 ((rd_T46 l1 x40_2).f0.f1), .int .i64 ((rd_T46 l1 x40_2).f1.f0), .int .i64 ((rd_T46 l1 x40_2).f1.f1)] 46 (0, 0))) := bp_ BK424
    have n1_ : Aside0 (Below w.heap.size w ((((w69.setCell ⟨gb424, 0, none⟩ (.int .i64 ((rd_T46 l1 x40_2).f0.f0))).setCell ⟨gb424, 1, none⟩ (.int .i64 ((rd_T46 l1 x40_2).f0.f1))).setCell ⟨gb424, 2, none⟩ (.int .i64 ((rd_T46 l1 x40_2).f1.f0))).setCell ⟨gb424, 3, none⟩ (.int .i64 ((rd_T46 l1 x40_2).f1.f1)))) := bw_ HB
    (try clear BK424)
    (try clear HB)
    generalize ((((w69.setCell ⟨gb424, 0, none⟩ (.int .i64 ((rd_T46 l1 x40_2).f0.f0))).setCell ⟨gb424, 1, none⟩ (.int .i64 ((rd_T46 l1 x40_2).f0.f1))).setCell ⟨gb424, 2, none⟩ (.int .i64 ((rd_T46 l1 x40_2).f1.f0))).setCell ⟨gb424, 3, none⟩ (.int .i64 ((rd_T46 l1 x40_2).f1.f1))) = w71 at n0_ n1_ ⊢
    have BK424 := n0_
    have HB := n1_
    clear n0_ n1_
    replace BK424 := bd_ BK424
    replace HB := be_ HB
    have p425 : 0 ≤ ((ji31) : Int) := od_
    have q425 : (ji31) < (l2.length : Int) := od_
    obtain ⟨ad425, e425, hx425_0, hx425_1, hx425_2, hx425_3⟩ := at_T150 HR2.out (ji31) p425 q425
    have hw425_3 := hx425_3
    have hw425_2 := hx425_2
    have hw425_1 := hx425_1
    have hw425_0 := hx425_0
    cases e425
    replace hx425_0 := clTr HB.out hx425_0
    replace hx425_1 := clTr HB.out hx425_1
    replace hx425_2 := clTr HB.out hx425_2
    replace hx425_3 := clTr HB.out hx425_3
    replace p425 := eq_true p425
    replace q425 := eq_true q425
    refine start_ (n := 15) (S := fun w' => w'.cell? ⟨gb424, 0, none⟩ = some (.int .i64 ((rd_T46 l1 x40_2).f0.f0)) ∧ w'.cell? ⟨gb424, 1, none⟩ = some (.int .i64 ((rd_T46 l1 x40_2).f0.f1)) ∧ w'.cell? ⟨gb424, 2, none⟩ = some (.int .i64 ((rd_T46 l1 x40_2).f1.f0)) ∧ w'.cell? ⟨gb424, 3, none⟩ = some (.int .i64 ((rd_T46 l1 x40_2).f1.f1)) ∧ w'.cell? (ad425.add (((ji31)).toNat * 4)) = some (.int .i64 ((rd_T150 l2 (ji31)).f0.f0)) ∧ w'.cell? ⟨(ad425.add (((ji31)).toNat * 4)).block, (ad425.add (((ji31)).toNat * 4)).off + 1, none⟩ = some (.int .i64 ((rd_T150 l2 (ji31)).f0.f1)) ∧ w'.cell? ⟨(ad425.add (((ji31)).toNat * 4)).block, (ad425.add (((ji31)).toNat * 4)).off + 2, none⟩ = some (.int .i64 ((rd_T150 l2 (ji31)).f0.f2)) ∧ w'.cell? ⟨(ad425.add (((ji31)).toNat * 4)).block, (ad425.add (((ji31)).toNat * 4)).off + 3, none⟩ = some (.bool ((rd_T150 l2 (ji31)).f1))) (ds := []) (bv_ 15 0) (by kernel_rfl) rfl rfl ⟨cz_ BK424 0, cz_ BK424 1, cz_ BK424 2, cz_ BK424 3, (clTr HB.out hw425_0 :), (clTr HB.out hw425_1 :), (clTr HB.out hw425_2 :), (clTr HB.out hw425_3 :)⟩ (fun hHeld => ?_); refine with_tabW impl_isFree.tab14 impl_isFree.bits14 (fun HT_ HW_ => ?_)
    generalize w71.drew = w72 at BK424 HB hx425_0 hx425_1 hx425_2 hx425_3 hHeld ⊢
    refine px_ HT_ 0 46 1 ?_
    refine px_ HT_ 2 48 5 ?_
    refine px_ HT_ 3 49 13 ?_
    refine px_ HT_ 4 50 29 ?_
    refine px_ HT_ 5 51 61 ?_
    refine ta_ HT_ HW_ 1 (some 47) (bv_ 15 63) hHeld ?_ (hy := by rintro w' ⟨s0, s1, s2, s3, s4, s5, s6, s7⟩; go_simp; with_reducible rfl)
    refine ta_ HT_ HW_ 6 (some 52) (bv_ 15 127) hHeld ?_ (hy := by rintro w' ⟨s0, s1, s2, s3, s4, s5, s6, s7⟩; go_simp; with_reducible rfl)
    refine join_ (σ := Nat) 2 (bv_ 15 8191) (fun s_ => [(53, .agg #[.int .i64 t426, .int .i64 t427, .int .i64 t428, .bool t429]), (54, .tuple #[.agg #[.int .i64 t430, .int .i64 t431, .int .i64 t432, .bool t433], .bool false]), (14, .pointer (some ⟨s_, 0, none⟩)), (45, .tuple #[.agg #[.int .i64 t430, .int .i64 t431, .int .i64 t432, .bool t433], .bool false]), (55, .agg #[.int .i64 t430, .int .i64 t431, .int .i64 t432, .bool t433]), (56, .bool false)]) (fun s_ w' => (w'.cell? ⟨gb424, 0, none⟩ = some (.int .i64 ((rd_T46 l1 x40_2).f0.f0)) ∧ w'.cell? ⟨gb424, 1, none⟩ = some (.int .i64 ((rd_T46 l1 x40_2).f0.f1)) ∧ w'.cell? ⟨gb424, 2, none⟩ = some (.int .i64 ((rd_T46 l1 x40_2).f1.f0)) ∧ w'.cell? ⟨gb424, 3, none⟩ = some (.int .i64 ((rd_T46 l1 x40_2).f1.f1)) ∧ w'.cell? (ad425.add (((ji31)).toNat * 4)) = some (.int .i64 ((rd_T150 l2 (ji31)).f0.f0)) ∧ w'.cell? ⟨(ad425.add (((ji31)).toNat * 4)).block, (ad425.add (((ji31)).toNat * 4)).off + 1, none⟩ = some (.int .i64 ((rd_T150 l2 (ji31)).f0.f1)) ∧ w'.cell? ⟨(ad425.add (((ji31)).toNat * 4)).block, (ad425.add (((ji31)).toNat * 4)).off + 2, none⟩ = some (.int .i64 ((rd_T150 l2 (ji31)).f0.f2)) ∧ w'.cell? ⟨(ad425.add (((ji31)).toNat * 4)).block, (ad425.add (((ji31)).toNat * 4)).off + 3, none⟩ = some (.bool ((rd_T150 l2 (ji31)).f1))) ∧ (w'.heap[gb424]? = some (.cells #[.int .i64 ((rd_T46 l1 x40_2).f0.f0), .int .i64 ((rd_T46 l1 x40_2).f0.f1), .int .i64 ((rd_T46 l1 x40_2).f1.f0), .int .i64 ((rd_T46 l1 x40_2).f1.f1)] 46 (0, 0))) ∧ (w'.heap[s_]? = some (.cells #[.int .i64 0, .int .i64 0, .int .i64 0, .bool false] 150 (0, 0))) ∧ (w.heap.size ≤ s_) ∧ (w.heap.size ≤ s_) ∧ (gb424 ≠ s_) ∧ (s_ ≠ gb424) ∧ (Below w.heap.size w w')) ?_ ?_
    rotate_left
    ·intro hCont
     refine tw_ HT_ 7 12 (some 53) (some 14) (bv_ 15 255) (bv_ 15 4223) (fun K hK => ?_) (fun K hK => ?_)
     ·skip
      refine gs_ Try.func200 #[.agg #[.int .i64 ((rd_T150 l2 (ji31)).f0.f0), .int .i64 ((rd_T150 l2 (ji31)).f0.f1), .int .i64 ((rd_T150 l2 (ji31)).f0.f2), .bool ((rd_T150 l2 (ji31)).f1)]] ?_ (hargs := by (try simp only [List.map_toArray, List.map_cons, List.map_nil]); first | done | (simp only [hji31]; rfl) | rfl | (simp only [List.length_drop, List.length_take]; rfl))
      with_reducible refine (impl_opposite.calls ((rd_T150 l2 (ji31)).f0.f0) ((rd_T150 l2 (ji31)).f0.f1) ((rd_T150 l2 (ji31)).f0.f2) ((rd_T150 l2 (ji31)).f1) t426 t427 t428 t429 _ A34.out).mono ?_
      rintro e w73 ⟨rfl, hb⟩
      refine ⟨_, rfl, ?_⟩
      replace BK424 := bb_ BK424 hb
      replace HB := bt_ HB hb
      try clear hb
      refine hK.out _ _ ⟨cz_ BK424 0, cz_ BK424 1, cz_ BK424 2, cz_ BK424 3, (clTr HB.out hw425_0 :), (clTr HB.out hw425_1 :), (clTr HB.out hw425_2 :), (clTr HB.out hw425_3 :)⟩ (fun hHeld => ?_)
      clear hK K
      refine nm_ (some 53) ?_
      refine tw_ HT_ 8 12 (some 54) (some 14) (bv_ 15 511) (bv_ 15 4351) (fun K hK => ?_) (fun K hK => ?_)
      ·skip
       refine gs_ Try.func199 #[.int .i64 a0, .agg #[.int .i64 ((rd_T46 l1 x40_2).f0.f0), .int .i64 ((rd_T46 l1 x40_2).f0.f1), .int .i64 ((rd_T46 l1 x40_2).f1.f0), .int .i64 ((rd_T46 l1 x40_2).f1.f1)], .agg #[.int .i64 t426, .int .i64 t427, .int .i64 t428, .bool t429]] ?_
       with_reducible refine (impl_moveSide.calls k2 a0 ((rd_T46 l1 x40_2).f0.f0) ((rd_T46 l1 x40_2).f0.f1) ((rd_T46 l1 x40_2).f1.f0) ((rd_T46 l1 x40_2).f1.f1) t426 t427 t428 t429 t430 t431 t432 t433 false _ A35.out).mono ?_
       rintro e w74 ⟨rfl, hb⟩
       refine ⟨_, rfl, ?_⟩
       replace BK424 := bb_ BK424 hb
       replace HB := bt_ HB hb
       try clear hb
       refine hK.out _ _ ⟨cz_ BK424 0, cz_ BK424 1, cz_ BK424 2, cz_ BK424 3, (clTr HB.out hw425_0 :), (clTr HB.out hw425_1 :), (clTr HB.out hw425_2 :), (clTr HB.out hw425_3 :)⟩ (fun hHeld => ?_)
       clear hK K
       refine nm_ (some 54) ?_
       refine px_ HT_ 9 45 1023 ?_
       refine px_ HT_ 10 55 2047 ?_
       refine px_ HT_ 11 56 4095 ?_
       refine on_ HT_ 12 (some 14) (bv_ 15 8191) (fun K hK => ?_)
       refine bz_ 14 #[.int .i64 0, .int .i64 0, .int .i64 0, .bool false] 150 ?_
       intro gb435 hg w75 BK435 hb
       have GW435 := bs_ HB hg
       have NB424_435 := bm_ BK424 hg
       have NB435_424 := bn_ BK424 hg
       replace BK424 := bb_ BK424 hb
       replace HB := bt_ HB hb
       clear hb hg
       refine hK.out _ _ ⟨cz_ BK424 0, cz_ BK424 1, cz_ BK424 2, cz_ BK424 3, (clTr HB.out hw425_0 :), (clTr HB.out hw425_1 :), (clTr HB.out hw425_2 :), (clTr HB.out hw425_3 :)⟩ (fun hHeld => ?_)
       clear hK K
       refine nm_ (some 14) ?_
       exact norm_ (by simp only [putAll, Act.put, lstS, lstZ, lstC]) (hCont (gb435) _ ⟨hHeld, (bl_ BK424).out, (bl_ BK435).out, GW435.out, GW435.out, NB424_435.out, NB435_424.out, (bw_ HB).out⟩)
      skip
      refine bz_ 14 #[.int .i64 0, .int .i64 0, .int .i64 0, .bool false] 150 ?_
      intro gb435 hg w74 BK435 hb
      have GW435 := bs_ HB hg
      have NB424_435 := bm_ BK424 hg
      have NB435_424 := bn_ BK424 hg
      replace BK424 := bb_ BK424 hb
      replace HB := bt_ HB hb
      clear hb hg
      refine hK.out _ _ ⟨cz_ BK424 0, cz_ BK424 1, cz_ BK424 2, cz_ BK424 3, (clTr HB.out hw425_0 :), (clTr HB.out hw425_1 :), (clTr HB.out hw425_2 :), (clTr HB.out hw425_3 :)⟩ (fun hHeld => ?_)
      clear hK K
      refine nm_ (some 14) ?_
      refine on_ HT_ 8 (some 54) (bv_ 15 4607) (fun K hK => ?_)
      refine gs_ Try.func199 #[.int .i64 a0, .agg #[.int .i64 ((rd_T46 l1 x40_2).f0.f0), .int .i64 ((rd_T46 l1 x40_2).f0.f1), .int .i64 ((rd_T46 l1 x40_2).f1.f0), .int .i64 ((rd_T46 l1 x40_2).f1.f1)], .agg #[.int .i64 t426, .int .i64 t427, .int .i64 t428, .bool t429]] ?_
      with_reducible refine (impl_moveSide.calls k2 a0 ((rd_T46 l1 x40_2).f0.f0) ((rd_T46 l1 x40_2).f0.f1) ((rd_T46 l1 x40_2).f1.f0) ((rd_T46 l1 x40_2).f1.f1) t426 t427 t428 t429 t430 t431 t432 t433 false _ A35.out).mono ?_
      rintro e w75 ⟨rfl, hb⟩
      refine ⟨_, rfl, ?_⟩
      replace BK424 := bb_ BK424 hb
      replace BK435 := bb_ BK435 hb
      replace HB := bt_ HB hb
      try clear hb
      refine hK.out _ _ ⟨cz_ BK424 0, cz_ BK424 1, cz_ BK424 2, cz_ BK424 3, (clTr HB.out hw425_0 :), (clTr HB.out hw425_1 :), (clTr HB.out hw425_2 :), (clTr HB.out hw425_3 :)⟩ (fun hHeld => ?_)
      clear hK K
      refine nm_ (some 54) ?_
      refine px_ HT_ 9 45 5119 ?_
      refine px_ HT_ 10 55 6143 ?_
      refine px_ HT_ 11 56 8191 ?_
      exact norm_ (by simp only [putAll, Act.put, lstS, lstZ, lstC]) (hCont (gb435) _ ⟨hHeld, (bl_ BK424).out, (bl_ BK435).out, GW435.out, GW435.out, NB424_435.out, NB435_424.out, (bw_ HB).out⟩)
     skip
     refine bz_ 14 #[.int .i64 0, .int .i64 0, .int .i64 0, .bool false] 150 ?_
     intro gb435 hg w73 BK435 hb
     have GW435 := bs_ HB hg
     have NB424_435 := bm_ BK424 hg
     have NB435_424 := bn_ BK424 hg
     replace BK424 := bb_ BK424 hb
     replace HB := bt_ HB hb
     clear hb hg
     refine hK.out _ _ ⟨cz_ BK424 0, cz_ BK424 1, cz_ BK424 2, cz_ BK424 3, (clTr HB.out hw425_0 :), (clTr HB.out hw425_1 :), (clTr HB.out hw425_2 :), (clTr HB.out hw425_3 :)⟩ (fun hHeld => ?_)
     clear hK K
     refine nm_ (some 14) ?_
     refine on_ HT_ 7 (some 53) (bv_ 15 4351) (fun K hK => ?_)
     refine gs_ Try.func200 #[.agg #[.int .i64 ((rd_T150 l2 (ji31)).f0.f0), .int .i64 ((rd_T150 l2 (ji31)).f0.f1), .int .i64 ((rd_T150 l2 (ji31)).f0.f2), .bool ((rd_T150 l2 (ji31)).f1)]] ?_ (hargs := by (try simp only [List.map_toArray, List.map_cons, List.map_nil]); first | done | (simp only [hji31]; rfl) | rfl | (simp only [List.length_drop, List.length_take]; rfl))
     with_reducible refine (impl_opposite.calls ((rd_T150 l2 (ji31)).f0.f0) ((rd_T150 l2 (ji31)).f0.f1) ((rd_T150 l2 (ji31)).f0.f2) ((rd_T150 l2 (ji31)).f1) t426 t427 t428 t429 _ A34.out).mono ?_
     rintro e w74 ⟨rfl, hb⟩
     refine ⟨_, rfl, ?_⟩
     replace BK424 := bb_ BK424 hb
     replace BK435 := bb_ BK435 hb
     replace HB := bt_ HB hb
     try clear hb
     refine hK.out _ _ ⟨cz_ BK424 0, cz_ BK424 1, cz_ BK424 2, cz_ BK424 3, (clTr HB.out hw425_0 :), (clTr HB.out hw425_1 :), (clTr HB.out hw425_2 :), (clTr HB.out hw425_3 :)⟩ (fun hHeld => ?_)
     clear hK K
     refine nm_ (some 53) ?_
     refine on_ HT_ 8 (some 54) (bv_ 15 4607) (fun K hK => ?_)
     refine gs_ Try.func199 #[.int .i64 a0, .agg #[.int .i64 ((rd_T46 l1 x40_2).f0.f0), .int .i64 ((rd_T46 l1 x40_2).f0.f1), .int .i64 ((rd_T46 l1 x40_2).f1.f0), .int .i64 ((rd_T46 l1 x40_2).f1.f1)], .agg #[.int .i64 t426, .int .i64 t427, .int .i64 t428, .bool t429]] ?_
     with_reducible refine (impl_moveSide.calls k2 a0 ((rd_T46 l1 x40_2).f0.f0) ((rd_T46 l1 x40_2).f0.f1) ((rd_T46 l1 x40_2).f1.f0) ((rd_T46 l1 x40_2).f1.f1) t426 t427 t428 t429 t430 t431 t432 t433 false _ A35.out).mono ?_
     rintro e w75 ⟨rfl, hb⟩
     refine ⟨_, rfl, ?_⟩
     replace BK424 := bb_ BK424 hb
     replace BK435 := bb_ BK435 hb
     replace HB := bt_ HB hb
     try clear hb
     refine hK.out _ _ ⟨cz_ BK424 0, cz_ BK424 1, cz_ BK424 2, cz_ BK424 3, (clTr HB.out hw425_0 :), (clTr HB.out hw425_1 :), (clTr HB.out hw425_2 :), (clTr HB.out hw425_3 :)⟩ (fun hHeld => ?_)
     clear hK K
     refine nm_ (some 54) ?_
     refine px_ HT_ 9 45 5119 ?_
     refine px_ HT_ 10 55 6143 ?_
     refine px_ HT_ 11 56 8191 ?_
     exact norm_ (by simp only [putAll, Act.put, lstS, lstZ, lstC]) (hCont (gb435) _ ⟨hHeld, (bl_ BK424).out, (bl_ BK435).out, GW435.out, GW435.out, NB424_435.out, NB435_424.out, (bw_ HB).out⟩)
    rintro gb435 w76 ⟨hS_, h0_, h1_, h2_, h3_, h4_, h5_, h6_⟩
    clear BK424 HB
    have BK424 := Aside0.mk h0_
    have BK435 := Aside0.mk h1_
    have GW435 := Aside0.mk h2_
    have GW435 := Aside0.mk h3_
    have NB424_435 := Aside0.mk h4_
    have NB435_424 := Aside0.mk h5_
    have HB := Aside0.mk h6_
    clear h0_ h1_ h2_ h3_ h4_ h5_ h6_
    have hHeld : w76.cell? ⟨gb424, 0, none⟩ = some (.int .i64 ((rd_T46 l1 x40_2).f0.f0)) ∧ w76.cell? ⟨gb424, 1, none⟩ = some (.int .i64 ((rd_T46 l1 x40_2).f0.f1)) ∧ w76.cell? ⟨gb424, 2, none⟩ = some (.int .i64 ((rd_T46 l1 x40_2).f1.f0)) ∧ w76.cell? ⟨gb424, 3, none⟩ = some (.int .i64 ((rd_T46 l1 x40_2).f1.f1)) ∧ w76.cell? (ad425.add (((ji31)).toNat * 4)) = some (.int .i64 ((rd_T150 l2 (ji31)).f0.f0)) ∧ w76.cell? ⟨(ad425.add (((ji31)).toNat * 4)).block, (ad425.add (((ji31)).toNat * 4)).off + 1, none⟩ = some (.int .i64 ((rd_T150 l2 (ji31)).f0.f1)) ∧ w76.cell? ⟨(ad425.add (((ji31)).toNat * 4)).block, (ad425.add (((ji31)).toNat * 4)).off + 2, none⟩ = some (.int .i64 ((rd_T150 l2 (ji31)).f0.f2)) ∧ w76.cell? ⟨(ad425.add (((ji31)).toNat * 4)).block, (ad425.add (((ji31)).toNat * 4)).off + 3, none⟩ = some (.bool ((rd_T150 l2 (ji31)).f1)) := hS_
    refine norm_ (a' := ?_) ?_ ?_
    rotate_left
    ·simp only [putAll, Act.put, lstS, lstZ, lstC]
     rfl
    refine on_ HT_ 13 none (bv_ 15 16383) (fun K hK => ?_)
    have hs77 : w76.cell? ⟨gb435, 0, none⟩ = some (.int .i64 0) := (blk_cell BK435.out 0).trans rfl
    have hfs77 := blk_frozen BK435.out 0
    have hns77_0 := NB424_435.out
    have hms77_0 := NB435_424.out
    have hs78 : w76.cell? ⟨gb435, 1, none⟩ = some (.int .i64 0) := (blk_cell BK435.out 1).trans rfl
    have hfs78 := blk_frozen BK435.out 1
    have hns78_0 := NB424_435.out
    have hms78_0 := NB435_424.out
    have hs79 : w76.cell? ⟨gb435, 2, none⟩ = some (.int .i64 0) := (blk_cell BK435.out 2).trans rfl
    have hfs79 := blk_frozen BK435.out 2
    have hns79_0 := NB424_435.out
    have hms79_0 := NB435_424.out
    have hs80 : w76.cell? ⟨gb435, 3, none⟩ = some (.bool false) := (blk_cell BK435.out 3).trans rfl
    have hfs80 := blk_frozen BK435.out 3
    have hns80_0 := NB424_435.out
    have hms80_0 := NB435_424.out
    refine skip_ (w1 := ?_) (by rfl) rfl ?_ ?_
    rotate_left
    ·go_simp
     rfl
    refine hK.out _ _ ⟨(cg_ NB424_435 ((cg_ NB424_435 ((cg_ NB424_435 ((cg_ NB424_435 (hHeld.1)))))))), (cg_ NB424_435 ((cg_ NB424_435 ((cg_ NB424_435 ((cg_ NB424_435 (hHeld.2.1)))))))), (cg_ NB424_435 ((cg_ NB424_435 ((cg_ NB424_435 ((cg_ NB424_435 (hHeld.2.2.1)))))))), (cg_ NB424_435 ((cg_ NB424_435 ((cg_ NB424_435 ((cg_ NB424_435 (hHeld.2.2.2.1)))))))), (cf_ hw425_0 GW435 ((cf_ hw425_0 GW435 ((cf_ hw425_0 GW435 ((cf_ hw425_0 GW435 (hHeld.2.2.2.2.1)))))))), (cf_ hw425_1 GW435 ((cf_ hw425_1 GW435 ((cf_ hw425_1 GW435 ((cf_ hw425_1 GW435 (hHeld.2.2.2.2.2.1)))))))), (cf_ hw425_2 GW435 ((cf_ hw425_2 GW435 ((cf_ hw425_2 GW435 ((cf_ hw425_2 GW435 (hHeld.2.2.2.2.2.2.1)))))))), (cf_ hw425_3 GW435 ((cf_ hw425_3 GW435 ((cf_ hw425_3 GW435 ((cf_ hw425_3 GW435 (hHeld.2.2.2.2.2.2.2))))))))⟩ (fun hHeld => ?_)
    clear hK K
    refine px_ HT_ 14 15 32767 ?_
    refine done_ (done_of HT_.out (by kernel_rfl)) ?_
    try go_wp2
    go_ret2
    exact ⟨by first | rfl | (simp [errW_none, errW_some] <;> rfl) | (simp only [← hji31]; first | rfl | (simp [errW_none, errW_some] <;> rfl)) | (simp [*, errW_none, errW_some] <;> rfl), (bw_ HB).out⟩
   simp only [Option.some.injEq, Prod.mk.injEq] at H
   obtain ⟨rfl, rfl⟩ := H
   go_wp2
   go_ret2
   exact ⟨es_, (bw_ HB).out⟩
end Go.Proofs.Ytgoeelhiffbjlaa.QB
