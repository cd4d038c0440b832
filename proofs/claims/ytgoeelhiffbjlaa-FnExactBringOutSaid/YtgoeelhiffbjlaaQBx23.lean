import Derived.Test.YtgoeelhiffbjlaaQBx21
import Derived.Test.YtgoeelhiffbjlaaQBx22
namespace Go.Proofs.Ytgoeelhiffbjlaa.QB
open Go.RowKit YtgoeelhiffbjlaaW.PrintWords YtgoeelhiffbjlaaW.PrintLast YtgoeelhiffbjlaaW.PrintMore
attribute [local go_sem] isSome_setCell max2_int min2_int max_two min_two max_three min_three max_four min_four
set_option linter.unusedVariables false
set_option linter.unusedSimpArgs false
attribute [local go_sem high] eqA150
mutual
def spec_l09Free.l0 : Nat → Int → List (S46) → List (S150) → Int → Option (Bool × Int)
 | 0, _, _, _, _ => none
 | k + 1, x0, x1, x2, x8 => if x8 < (x2.length : Int) then (spec_l09Free.l1 k x0 x1 x2 x8 0) else (spec_l09Free.l2 k x0 x1 x2 0)
def spec_l09Free.l1 : Nat → Int → List (S46) → List (S150) → Int → Int → Option (Bool × Int)
 | 0, _, _, _, _, _ => none
 | k + 1, x0, x1, x2, x8, x9 => if x9 < x8 then (if 0 ≤ x8 then (if x8 < (x2.length : Int) then (if 0 ≤ x9 then (if x9 < (x2.length : Int) then ((spec_l09Apart.f k x0 ((rd_T150 x2 x8).f0.f0) ((rd_T150 x2 x8).f0.f1) ((rd_T150 x2 x8).f0.f2) ((rd_T150 x2 x8).f1) ((rd_T150 x2 x9).f0.f0) ((rd_T150 x2 x9).f0.f1) ((rd_T150 x2 x9).f0.f2) ((rd_T150 x2 x9).f1)).bind fun t171 => (if t171 = true then (spec_l09Free.l1 k x0 x1 x2 x8 (wrap64 (x9 + 1))) else (some (false, 0)))) else (none)) else (none)) else (none)) else (none)) else (spec_l09Free.l0 k x0 x1 x2 (wrap64 (x8 + 1)))
def spec_l09Free.l2 : Nat → Int → List (S46) → List (S150) → Int → Option (Bool × Int)
 | 0, _, _, _, _ => none
 | k + 1, x0, x1, x2, x10 => if x10 < (x1.length : Int) then (if 0 ≤ (wrap64 (2 * x10)) then (if (wrap64 (2 * x10)) < (x2.length : Int) then (if 0 ≤ x10 then ((spec_l09Move.f k x0 ((rd_T46 x1 x10).f0.f0) ((rd_T46 x1 x10).f0.f1) ((rd_T46 x1 x10).f1.f0) ((rd_T46 x1 x10).f1.f1) ((rd_T150 x2 (wrap64 (2 * x10))).f0.f0) ((rd_T150 x2 (wrap64 (2 * x10))).f0.f1) ((rd_T150 x2 (wrap64 (2 * x10))).f0.f2) (!((rd_T150 x2 (wrap64 (2 * x10))).f1))).bind fun bt175 => (if bt175.2.2.2.2 = true then (if 0 ≤ (wrap64 ((wrap64 (2 * x10)) + 1)) then (if (wrap64 ((wrap64 (2 * x10)) + 1)) < (x2.length : Int) then (if ((!(bt175.1 == ((rd_T150 x2 (wrap64 ((wrap64 (2 * x10)) + 1))).f0.f0)) || (!(bt175.2.1 == ((rd_T150 x2 (wrap64 ((wrap64 (2 * x10)) + 1))).f0.f1)) || (!(bt175.2.2.1 == ((rd_T150 x2 (wrap64 ((wrap64 (2 * x10)) + 1))).f0.f2))))) || (!(bt175.2.2.2.1 == ((rd_T150 x2 (wrap64 ((wrap64 (2 * x10)) + 1))).f1)))) = true then (some (false, 0)) else (spec_l09Free.l2 k x0 x1 x2 (wrap64 (x10 + 1)))) else (none)) else (none)) else (some (false, 3)))) else (none)) else (none)) else (none)) else (some (true, 0))
end
def spec_l09Free.f (k : Nat) (a0 : Int) (l1 : List (S46)) (l2 : List (S150)) : Option (Bool × Int) := spec_l09Free.l0 k a0 l1 l2 0
def spec_l09Free.T7 : Bool × List (List Nat × List Nat) := (true, [([], []), ([], []), ([], []), ([1, 2], [1, 2]), ([3], [3]), ([], []), ([], []), ([5, 6], [5, 6]), ([7], [7]), ([0, 4, 8], [0, 4, 8]), ([9], [9])])
def spec_l09Free.B7 : List Nat := [0, 0, 0, 6, 14, 0, 0, 96, 224, 511, 1023]
theorem spec_l09Free.tab7 : rtab .any (opsOf Try.f172 7) = spec_l09Free.T7 := by kernel_rfl
theorem spec_l09Free.bits7 : waitsOk spec_l09Free.T7.2 spec_l09Free.B7 = true := by kernel_rfl
def spec_l09Free.T14 : Bool × List (List Nat × List Nat) := (true, [([], []), ([], []), ([], []), ([1, 2], [1, 2]), ([3], [3]), ([], []), ([0, 4, 5], [0, 4, 5]), ([6], [6]), ([7], [7]), ([7], [7]), ([], []), ([10, 8, 6, 0, 1, 2, 3, 4, 5, 6, 7, 8, 10], [8, 10]), ([9, 11, 0, 1, 2, 3, 4, 5, 6, 7, 8, 9, 10, 11], [9])])
def spec_l09Free.B14 : List Nat := [0, 0, 0, 6, 14, 0, 63, 127, 255, 255, 0, 1535, 4095]
theorem spec_l09Free.tab14 : rtab .any (opsOf Try.f172 14) = spec_l09Free.T14 := by kernel_rfl
theorem spec_l09Free.bits14 : waitsOk spec_l09Free.T14.2 spec_l09Free.B14 = true := by kernel_rfl
def spec_l09Free.T17 : Bool × List (List Nat × List Nat) := (true, [([], []), ([], []), ([], []), ([2], [2]), ([3], [3]), ([1, 4], [1, 4]), ([5], [5]), ([0, 6], [0, 6])])
def spec_l09Free.B17 : List Nat := [0, 0, 0, 4, 12, 30, 62, 127]
theorem spec_l09Free.tab17 : rtab .any (opsOf Try.f172 17) = spec_l09Free.T17 := by kernel_rfl
theorem spec_l09Free.bits17 : waitsOk spec_l09Free.T17.2 spec_l09Free.B17 = true := by kernel_rfl
set_option maxHeartbeats 8000000 in
set_option maxRecDepth 100000 in
theorem spec_l09Free.calls (k : Nat) (a0 : Int) (A1 : Option Addr) (c1 : Nat) (l1 : List (S46)) (A2 : Option Addr) (c2 : Nat) (l2 : List (S150)) (r1 : Bool) (r2 : Int) (w : World) (hr1 : Kd.C k46 w A1 l1.length l1) (hc1 : l1.length ≤ c1) (hr2 : Kd.C k150 w A2 l2.length l2) (hc2 : l2.length ≤ c2) (h : spec_l09Free.f k a0 l1 l2 = some (r1, r2)) :
  Calls Try.prog 172 #[.int .i64 a0, .slice A1 l1.length c1, .slice A2 l2.length c2] w fun e w' => e = .returned (.tuple #[.bool r1, .int .i64 r2]) ∧ Below w.heap.size w w' := by
 have hu150 := Try.underlying150
 have hu46 := Try.underlying46
 have HR1 := Aside0.mk hr1
 have HC1 := Aside0.mk hc1
 clear hr1 hc1
 have HR2 := Aside0.mk hr2
 have HC2 := Aside0.mk hc2
 clear hr2 hc2
 have HB := Aside0.mk (Below.refl w.heap.size w)
 unfold spec_l09Free.f at h
 have H := h
 clear h
 have H' := Aside0.mk H
 clear H
 go_enter Try.func172, Try.ntmps172
 go_wp2
 go_loopg [8] k (fun kq v8 w' => ∃ (x8_1 : Int), v8 = .int .i64 x8_1 ∧ Aside0 (spec_l09Free.l0 kq a0 l1 l2 x8_1 = some (r1, r2)) ∧ Aside0 (kq ≤ k) ∧ Aside0 (Below w.heap.size w w'))
 case atStart => exact ⟨(0), en_, H', ⟨Nat.le_refl _⟩, bw_ HB⟩
 clear H'
 try clear c1
 try clear c2
 obtain ⟨x8_1, rfl, HA, HK1, HB⟩ := hrel
 cases gk with
 | zero => exact absurd HA.out (by simp [spec_l09Free.l0])
 | succ k1 =>
  have H := HA.out
  clear HA
  simp only [spec_l09Free.l0] at H
  replace H := il_ H
  rcases H with ⟨c4b0, H⟩ | ⟨c4b0, H⟩
  ·have H' := Aside0.mk H
   clear H
   go_wp2
   go_loopg [9] k1 (fun kq v9 w' => ∃ (x9_2 : Int), v9 = .int .i64 x9_2 ∧ Aside0 (spec_l09Free.l1 kq a0 l1 l2 x8_1 x9_2 = some (r1, r2)) ∧ Aside0 (kq ≤ k1) ∧ Aside0 (Below w.heap.size w w'))
   case atStart => exact ⟨(0), en_, H', ⟨Nat.le_refl _⟩, bw_ HB⟩
   clear H'
   try clear c1
   try clear c2
   try clear c4b0
   obtain ⟨x9_2, rfl, HA, HK2, HB⟩ := hrel
   cases gk with
   | zero => exact absurd HA.out (by simp [spec_l09Free.l1])
   | succ k2 =>
    have H := HA.out
    clear HA
    simp only [spec_l09Free.l1] at H
    replace H := il_ H
    rcases H with ⟨c5b0, H⟩ | ⟨c5b0, H⟩
    ·replace H := imn_ H
     obtain ⟨c6b0, H⟩ := H
     replace H := iln_ H
     obtain ⟨c7b0, H⟩ := H
     replace H := imn_ H
     obtain ⟨c8b0, H⟩ := H
     replace H := iln_ H
     obtain ⟨c9b0, H⟩ := H
     replace H := oc_ H
     obtain ⟨t171, A10, H⟩ := H
     replace H := ib_ H
     rcases H with ⟨rfl, H⟩ | ⟨rfl, H⟩
     ·have H' := Aside0.mk H
      clear H
      try go_wp2
      replace HB := be_ HB
      have p169 : 0 ≤ (x8_1 : Int) := od_
      have q169 : x8_1 < (l2.length : Int) := od_
      obtain ⟨ad169, e169, hx169_0, hx169_1, hx169_2, hx169_3⟩ := at_T150 HR2.out x8_1 p169 q169
      have hw169_3 := hx169_3
      have hw169_2 := hx169_2
      have hw169_1 := hx169_1
      have hw169_0 := hx169_0
      cases e169
      replace hx169_0 := clTr HB.out hx169_0
      replace hx169_1 := clTr HB.out hx169_1
      replace hx169_2 := clTr HB.out hx169_2
      replace hx169_3 := clTr HB.out hx169_3
      replace p169 := eq_true p169
      replace q169 := eq_true q169
      have p170 : 0 ≤ (x9_2 : Int) := od_
      have q170 : x9_2 < (l2.length : Int) := od_
      obtain ⟨ad170, e170, hx170_0, hx170_1, hx170_2, hx170_3⟩ := at_T150 HR2.out x9_2 p170 q170
      have hw170_3 := hx170_3
      have hw170_2 := hx170_2
      have hw170_1 := hx170_1
      have hw170_0 := hx170_0
      obtain rfl : ad169 = ad170 := (by injection e170)
      replace hx170_0 := clTr HB.out hx170_0
      replace hx170_1 := clTr HB.out hx170_1
      replace hx170_2 := clTr HB.out hx170_2
      replace hx170_3 := clTr HB.out hx170_3
      replace p170 := eq_true p170
      replace q170 := eq_true q170
      refine start_ (n := 11) (S := fun w' => w'.cell? (ad169.add ((x8_1).toNat * 4)) = some (.int .i64 ((rd_T150 l2 x8_1).f0.f0)) ∧ w'.cell? ⟨(ad169.add ((x8_1).toNat * 4)).block, (ad169.add ((x8_1).toNat * 4)).off + 1, none⟩ = some (.int .i64 ((rd_T150 l2 x8_1).f0.f1)) ∧ w'.cell? ⟨(ad169.add ((x8_1).toNat * 4)).block, (ad169.add ((x8_1).toNat * 4)).off + 2, none⟩ = some (.int .i64 ((rd_T150 l2 x8_1).f0.f2)) ∧ w'.cell? ⟨(ad169.add ((x8_1).toNat * 4)).block, (ad169.add ((x8_1).toNat * 4)).off + 3, none⟩ = some (.bool ((rd_T150 l2 x8_1).f1)) ∧ w'.cell? (ad169.add ((x9_2).toNat * 4)) = some (.int .i64 ((rd_T150 l2 x9_2).f0.f0)) ∧ w'.cell? ⟨(ad169.add ((x9_2).toNat * 4)).block, (ad169.add ((x9_2).toNat * 4)).off + 1, none⟩ = some (.int .i64 ((rd_T150 l2 x9_2).f0.f1)) ∧ w'.cell? ⟨(ad169.add ((x9_2).toNat * 4)).block, (ad169.add ((x9_2).toNat * 4)).off + 2, none⟩ = some (.int .i64 ((rd_T150 l2 x9_2).f0.f2)) ∧ w'.cell? ⟨(ad169.add ((x9_2).toNat * 4)).block, (ad169.add ((x9_2).toNat * 4)).off + 3, none⟩ = some (.bool ((rd_T150 l2 x9_2).f1))) (ds := []) (bv_ 11 0) (by kernel_rfl) rfl rfl ⟨(clTr HB.out hw169_0 :), (clTr HB.out hw169_1 :), (clTr HB.out hw169_2 :), (clTr HB.out hw169_3 :), (clTr HB.out hw170_0 :), (clTr HB.out hw170_1 :), (clTr HB.out hw170_2 :), (clTr HB.out hw170_3 :)⟩ (fun hHeld => ?_); refine with_tabW spec_l09Free.tab7 spec_l09Free.bits7 (fun HT_ HW_ => ?_)
      generalize wr.drew = w12 at HB hx169_0 hx169_1 hx169_2 hx169_3 hx170_0 hx170_1 hx170_2 hx170_3 hHeld ⊢
      refine px_ HT_ 0 25 1 ?_
      refine px_ HT_ 1 26 3 ?_
      refine px_ HT_ 2 27 7 ?_
      refine px_ HT_ 3 28 15 ?_
      refine px_ HT_ 5 30 47 ?_
      refine px_ HT_ 6 31 111 ?_
      refine px_ HT_ 7 32 239 ?_
      refine ta_ HT_ HW_ 4 (some 29) (bv_ 11 255) hHeld ?_ (hy := by rintro w' ⟨s0, s1, s2, s3, s4, s5, s6, s7⟩; go_simp; with_reducible rfl)
      refine ta_ HT_ HW_ 8 (some 33) (bv_ 11 511) hHeld ?_ (hy := by rintro w' ⟨s0, s1, s2, s3, s4, s5, s6, s7⟩; go_simp; with_reducible rfl)
      refine on_ HT_ 9 (some 34) (bv_ 11 1023) (fun K hK => ?_)
      refine gs_ Try.func196 #[.int .i64 a0, .agg #[.int .i64 ((rd_T150 l2 x8_1).f0.f0), .int .i64 ((rd_T150 l2 x8_1).f0.f1), .int .i64 ((rd_T150 l2 x8_1).f0.f2), .bool ((rd_T150 l2 x8_1).f1)], .agg #[.int .i64 ((rd_T150 l2 x9_2).f0.f0), .int .i64 ((rd_T150 l2 x9_2).f0.f1), .int .i64 ((rd_T150 l2 x9_2).f0.f2), .bool ((rd_T150 l2 x9_2).f1)]] ?_
      with_reducible refine (spec_l09Apart.calls k2 a0 ((rd_T150 l2 x8_1).f0.f0) ((rd_T150 l2 x8_1).f0.f1) ((rd_T150 l2 x8_1).f0.f2) ((rd_T150 l2 x8_1).f1) ((rd_T150 l2 x9_2).f0.f0) ((rd_T150 l2 x9_2).f0.f1) ((rd_T150 l2 x9_2).f0.f2) ((rd_T150 l2 x9_2).f1) true _ A10.out).mono ?_
      rintro e w13 ⟨rfl, hb⟩
      refine ⟨_, rfl, ?_⟩
      replace HB := bt_ HB hb
      try clear hb
      refine hK.out _ _ ⟨(clTr HB.out hw169_0 :), (clTr HB.out hw169_1 :), (clTr HB.out hw169_2 :), (clTr HB.out hw169_3 :), (clTr HB.out hw170_0 :), (clTr HB.out hw170_1 :), (clTr HB.out hw170_2 :), (clTr HB.out hw170_3 :)⟩ (fun hHeld => ?_)
      clear hK K
      refine nm_ (some 34) ?_
      refine px_ HT_ 10 35 2047 ?_
      refine done_ (done_of HT_.out (by kernel_rfl)) ?_
      try go_wp2
      go_roundg k2
      case measure => have := HK1.out; have := HK2.out; omega
      case rel => exact ⟨(wrap64 (x9_2 + 1)), en_, H', ⟨by have := HK1.out; have := HK2.out; omega⟩, bw_ HB⟩
     simp only [Option.some.injEq, Prod.mk.injEq] at H
     obtain ⟨rfl, rfl⟩ := H
     try go_wp2
     replace HB := be_ HB
     have p169 : 0 ≤ (x8_1 : Int) := od_
     have q169 : x8_1 < (l2.length : Int) := od_
     obtain ⟨ad169, e169, hx169_0, hx169_1, hx169_2, hx169_3⟩ := at_T150 HR2.out x8_1 p169 q169
     have hw169_3 := hx169_3
     have hw169_2 := hx169_2
     have hw169_1 := hx169_1
     have hw169_0 := hx169_0
     cases e169
     replace hx169_0 := clTr HB.out hx169_0
     replace hx169_1 := clTr HB.out hx169_1
     replace hx169_2 := clTr HB.out hx169_2
     replace hx169_3 := clTr HB.out hx169_3
     replace p169 := eq_true p169
     replace q169 := eq_true q169
     have p170 : 0 ≤ (x9_2 : Int) := od_
     have q170 : x9_2 < (l2.length : Int) := od_
     obtain ⟨ad170, e170, hx170_0, hx170_1, hx170_2, hx170_3⟩ := at_T150 HR2.out x9_2 p170 q170
     have hw170_3 := hx170_3
     have hw170_2 := hx170_2
     have hw170_1 := hx170_1
     have hw170_0 := hx170_0
     obtain rfl : ad169 = ad170 := (by injection e170)
     replace hx170_0 := clTr HB.out hx170_0
     replace hx170_1 := clTr HB.out hx170_1
     replace hx170_2 := clTr HB.out hx170_2
     replace hx170_3 := clTr HB.out hx170_3
     replace p170 := eq_true p170
     replace q170 := eq_true q170
     refine start_ (n := 11) (S := fun w' => w'.cell? (ad169.add ((x8_1).toNat * 4)) = some (.int .i64 ((rd_T150 l2 x8_1).f0.f0)) ∧ w'.cell? ⟨(ad169.add ((x8_1).toNat * 4)).block, (ad169.add ((x8_1).toNat * 4)).off + 1, none⟩ = some (.int .i64 ((rd_T150 l2 x8_1).f0.f1)) ∧ w'.cell? ⟨(ad169.add ((x8_1).toNat * 4)).block, (ad169.add ((x8_1).toNat * 4)).off + 2, none⟩ = some (.int .i64 ((rd_T150 l2 x8_1).f0.f2)) ∧ w'.cell? ⟨(ad169.add ((x8_1).toNat * 4)).block, (ad169.add ((x8_1).toNat * 4)).off + 3, none⟩ = some (.bool ((rd_T150 l2 x8_1).f1)) ∧ w'.cell? (ad169.add ((x9_2).toNat * 4)) = some (.int .i64 ((rd_T150 l2 x9_2).f0.f0)) ∧ w'.cell? ⟨(ad169.add ((x9_2).toNat * 4)).block, (ad169.add ((x9_2).toNat * 4)).off + 1, none⟩ = some (.int .i64 ((rd_T150 l2 x9_2).f0.f1)) ∧ w'.cell? ⟨(ad169.add ((x9_2).toNat * 4)).block, (ad169.add ((x9_2).toNat * 4)).off + 2, none⟩ = some (.int .i64 ((rd_T150 l2 x9_2).f0.f2)) ∧ w'.cell? ⟨(ad169.add ((x9_2).toNat * 4)).block, (ad169.add ((x9_2).toNat * 4)).off + 3, none⟩ = some (.bool ((rd_T150 l2 x9_2).f1))) (ds := []) (bv_ 11 0) (by kernel_rfl) rfl rfl ⟨(clTr HB.out hw169_0 :), (clTr HB.out hw169_1 :), (clTr HB.out hw169_2 :), (clTr HB.out hw169_3 :), (clTr HB.out hw170_0 :), (clTr HB.out hw170_1 :), (clTr HB.out hw170_2 :), (clTr HB.out hw170_3 :)⟩ (fun hHeld => ?_); refine with_tabW spec_l09Free.tab7 spec_l09Free.bits7 (fun HT_ HW_ => ?_)
     generalize wr.drew = w14 at HB hx169_0 hx169_1 hx169_2 hx169_3 hx170_0 hx170_1 hx170_2 hx170_3 hHeld ⊢
     refine px_ HT_ 0 25 1 ?_
     refine px_ HT_ 1 26 3 ?_
     refine px_ HT_ 2 27 7 ?_
     refine px_ HT_ 3 28 15 ?_
     refine px_ HT_ 5 30 47 ?_
     refine px_ HT_ 6 31 111 ?_
     refine px_ HT_ 7 32 239 ?_
     refine ta_ HT_ HW_ 4 (some 29) (bv_ 11 255) hHeld ?_ (hy := by rintro w' ⟨s0, s1, s2, s3, s4, s5, s6, s7⟩; go_simp; with_reducible rfl)
     refine ta_ HT_ HW_ 8 (some 33) (bv_ 11 511) hHeld ?_ (hy := by rintro w' ⟨s0, s1, s2, s3, s4, s5, s6, s7⟩; go_simp; with_reducible rfl)
     refine on_ HT_ 9 (some 34) (bv_ 11 1023) (fun K hK => ?_)
     refine gs_ Try.func196 #[.int .i64 a0, .agg #[.int .i64 ((rd_T150 l2 x8_1).f0.f0), .int .i64 ((rd_T150 l2 x8_1).f0.f1), .int .i64 ((rd_T150 l2 x8_1).f0.f2), .bool ((rd_T150 l2 x8_1).f1)], .agg #[.int .i64 ((rd_T150 l2 x9_2).f0.f0), .int .i64 ((rd_T150 l2 x9_2).f0.f1), .int .i64 ((rd_T150 l2 x9_2).f0.f2), .bool ((rd_T150 l2 x9_2).f1)]] ?_
     with_reducible refine (spec_l09Apart.calls k2 a0 ((rd_T150 l2 x8_1).f0.f0) ((rd_T150 l2 x8_1).f0.f1) ((rd_T150 l2 x8_1).f0.f2) ((rd_T150 l2 x8_1).f1) ((rd_T150 l2 x9_2).f0.f0) ((rd_T150 l2 x9_2).f0.f1) ((rd_T150 l2 x9_2).f0.f2) ((rd_T150 l2 x9_2).f1) false _ A10.out).mono ?_
     rintro e w15 ⟨rfl, hb⟩
     refine ⟨_, rfl, ?_⟩
     replace HB := bt_ HB hb
     try clear hb
     refine hK.out _ _ ⟨(clTr HB.out hw169_0 :), (clTr HB.out hw169_1 :), (clTr HB.out hw169_2 :), (clTr HB.out hw169_3 :), (clTr HB.out hw170_0 :), (clTr HB.out hw170_1 :), (clTr HB.out hw170_2 :), (clTr HB.out hw170_3 :)⟩ (fun hHeld => ?_)
     clear hK K
     refine nm_ (some 34) ?_
     refine px_ HT_ 10 35 2047 ?_
     refine done_ (done_of HT_.out (by kernel_rfl)) ?_
     try go_wp2
     go_ret2
     exact ⟨es_, (bw_ HB).out⟩
    have H' := Aside0.mk H
    clear H
    go_wp2
    go_roundg k2
    case measure => have := HK1.out; have := HK2.out; omega
    case rel => exact ⟨(wrap64 (x8_1 + 1)), en_, H', ⟨by have := HK1.out; have := HK2.out; omega⟩, bw_ HB⟩
  have H' := Aside0.mk H
  clear H
  go_wp2
  go_loopg [10] k1 (fun kq v10 w' => ∃ (x10_2 : Int), v10 = .int .i64 x10_2 ∧ Aside0 (spec_l09Free.l2 kq a0 l1 l2 x10_2 = some (r1, r2)) ∧ Aside0 (kq ≤ k1) ∧ Aside0 (Below w.heap.size w w'))
  case atStart => exact ⟨(0), en_, H', ⟨Nat.le_refl _⟩, bw_ HB⟩
  clear H'
  try clear c1
  try clear c2
  try clear c4b0
  try clear c5b0
  try clear c6b0
  try clear c7b0
  try clear c8b0
  try clear c9b0
  try clear hx169_0
  try clear hx169_1
  try clear hx169_2
  try clear hx169_3
  try clear hx170_0
  try clear hx170_1
  try clear hx170_2
  try clear hx170_3
  try clear p169
  try clear p170
  try clear q169
  try clear q170
  obtain ⟨x10_2, rfl, HA, HK2, HB⟩ := hrel
  cases gk with
  | zero => exact absurd HA.out (by simp [spec_l09Free.l2])
  | succ k2 =>
   have H := HA.out
   clear HA
   simp only [spec_l09Free.l2] at H
   replace H := il_ H
   rcases H with ⟨c16b0, H⟩ | ⟨c16b0, H⟩
   ·obtain ⟨ji17, hji17⟩ : ∃ j_ : Int, (wrap64 (2 * x10_2)) = j_ := ⟨_, rfl⟩
    replace H : (if 0 ≤ (ji17) then (if (ji17) < (l2.length : Int) then (if 0 ≤ x10_2 then ((spec_l09Move.f k2 a0 ((rd_T46 l1 x10_2).f0.f0) ((rd_T46 l1 x10_2).f0.f1) ((rd_T46 l1 x10_2).f1.f0) ((rd_T46 l1 x10_2).f1.f1) ((rd_T150 l2 (ji17)).f0.f0) ((rd_T150 l2 (ji17)).f0.f1) ((rd_T150 l2 (ji17)).f0.f2) (!((rd_T150 l2 (ji17)).f1))).bind fun bt175 => (if bt175.2.2.2.2 = true then (if 0 ≤ (wrap64 ((ji17) + 1)) then (if (wrap64 ((ji17) + 1)) < (l2.length : Int) then (if ((!(bt175.1 == ((rd_T150 l2 (wrap64 ((ji17) + 1))).f0.f0)) || (!(bt175.2.1 == ((rd_T150 l2 (wrap64 ((ji17) + 1))).f0.f1)) || (!(bt175.2.2.1 == ((rd_T150 l2 (wrap64 ((ji17) + 1))).f0.f2))))) || (!(bt175.2.2.2.1 == ((rd_T150 l2 (wrap64 ((ji17) + 1))).f1)))) = true then (some (false, 0)) else (spec_l09Free.l2 k2 a0 l1 l2 (wrap64 (x10_2 + 1)))) else (none)) else (none)) else (some (false, 3)))) else (none)) else (none)) else (none)) = some (r1, r2) := by first | (rw [hji17] at H; exact H) | (simp only [hji17] at H ⊢; exact H)
    have hji17w : (IntKind.i64.wrap (2 * x10_2)) = ji17 := (i64_w _).trans hji17
    replace H := imn_ H
    obtain ⟨c18b0, H⟩ := H
    replace H := iln_ H
    obtain ⟨c19b0, H⟩ := H
    replace H := imn_ H
    obtain ⟨c20b0, H⟩ := H
    replace H := oc_ H
    obtain ⟨⟨t175, t176, t177, t178, t179⟩, A21, H⟩ := H
    replace H := ib_ H
    rcases H with ⟨rfl, H⟩ | ⟨rfl, H⟩
    ·obtain ⟨ji23, hji23⟩ : ∃ j_ : Int, (wrap64 ((ji17) + 1)) = j_ := ⟨_, rfl⟩
     replace H : (if 0 ≤ (ji23) then (if (ji23) < (l2.length : Int) then (if ((!(t175 == ((rd_T150 l2 (ji23)).f0.f0)) || (!(t176 == ((rd_T150 l2 (ji23)).f0.f1)) || (!(t177 == ((rd_T150 l2 (ji23)).f0.f2))))) || (!(t178 == ((rd_T150 l2 (ji23)).f1)))) = true then (some (false, 0)) else (spec_l09Free.l2 k2 a0 l1 l2 (wrap64 (x10_2 + 1)))) else (none)) else (none)) = some (r1, r2) := by first | (rw [hji23] at H; exact H) | (simp only [hji23] at H ⊢; exact H)
     (try rw [hji23] at A21)
     have hji23w : (IntKind.i64.wrap ((ji17) + 1)) = ji23 := (i64_w _).trans hji23
     replace H := imn_ H
     obtain ⟨c24b0, H⟩ := H
     replace H := iln_ H
     obtain ⟨c25b0, H⟩ := H
     by_cases c26 : ((!(t175 == ((rd_T150 l2 (ji23)).f0.f0)) || (!(t176 == ((rd_T150 l2 (ji23)).f0.f1)) || (!(t177 == ((rd_T150 l2 (ji23)).f0.f2))))) || (!(t178 == ((rd_T150 l2 (ji23)).f1)))) = true
     ·rw [if_pos c26] at H
      have c26b0 : ((!(t175 == ((rd_T150 l2 (ji23)).f0.f0)) || (!(t176 == ((rd_T150 l2 (ji23)).f0.f1)) || (!(t177 == ((rd_T150 l2 (ji23)).f0.f2))))) || (!(t178 == ((rd_T150 l2 (ji23)).f1)))) = true := c26
      clear c26
      simp only [Option.some.injEq, Prod.mk.injEq] at H
      obtain ⟨rfl, rfl⟩ := H
      have p172 : 0 ≤ ((ji17) : Int) := od_
      have q172 : (ji17) < (l2.length : Int) := od_
      obtain ⟨ad172, e172, hx172_0, hx172_1, hx172_2, hx172_3⟩ := at_T150 HR2.out (ji17) p172 q172
      cases e172
      replace hx172_0 := clTr HB.out hx172_0
      replace hx172_1 := clTr HB.out hx172_1
      replace hx172_2 := clTr HB.out hx172_2
      replace hx172_3 := clTr HB.out hx172_3
      replace p172 := eq_true p172
      replace q172 := eq_true q172
      try go_wp2_with (first | ((refine gd_ 11 ?_); refine by_ 11 #[.int .i64 0, .int .i64 0, .int .i64 0, .bool false] 150 HB ?_; intro gb173 hg w27 BK173 hb GW173 HB_; replace HB := HB_; clear hb hg; obtain ⟨hcz28_0, hcz28_1, hcz28_2, hcz28_3, hfz28_0, hfz28_1, hfz28_2, hfz28_3⟩ := ch4_ BK173))
      have n0_ : Aside0 ((((((w27.setCell ⟨gb173, 0, none⟩ (.int .i64 ((rd_T150 l2 (ji17)).f0.f0))).setCell ⟨gb173, 1, none⟩ (.int .i64 ((rd_T150 l2 (ji17)).f0.f1))).setCell ⟨gb173, 2, none⟩ (.int .i64 ((rd_T150 l2 (ji17)).f0.f2))).setCell ⟨gb173, 3, none⟩ (.bool ((rd_T150 l2 (ji17)).f1))).setCell ⟨gb173, 3, none⟩ (.bool (!((rd_T150 l2 (ji17)).f1)))).heap[gb173]? = some (.cells #[.int .i64 ((rd_T150 l2 (ji17)).f0.f0), .int .i64 ((rd_T150 l2 (ji17)).f0.f1), .int .i64 ((rd_T150 l2 (ji17)).f0.f2), .bool (!((rd_T150 l2 (ji17)).f1))] 150 (0, 0))) := bp_ BK173
      have n1_ : Aside0 (Below w.heap.size w (((((w27.setCell ⟨gb173, 0, none⟩ (.int .i64 ((rd_T150 l2 (ji17)).f0.f0))).setCell ⟨gb173, 1, none⟩ (.int .i64 ((rd_T150 l2 (ji17)).f0.f1))).setCell ⟨gb173, 2, none⟩ (.int .i64 ((rd_T150 l2 (ji17)).f0.f2))).setCell ⟨gb173, 3, none⟩ (.bool ((rd_T150 l2 (ji17)).f1))).setCell ⟨gb173, 3, none⟩ (.bool (!((rd_T150 l2 (ji17)).f1))))) := bw_ HB
      (try clear BK173)
      (try clear HB)
      generalize (((((w27.setCell ⟨gb173, 0, none⟩ (.int .i64 ((rd_T150 l2 (ji17)).f0.f0))).setCell ⟨gb173, 1, none⟩ (.int .i64 ((rd_T150 l2 (ji17)).f0.f1))).setCell ⟨gb173, 2, none⟩ (.int .i64 ((rd_T150 l2 (ji17)).f0.f2))).setCell ⟨gb173, 3, none⟩ (.bool ((rd_T150 l2 (ji17)).f1))).setCell ⟨gb173, 3, none⟩ (.bool (!((rd_T150 l2 (ji17)).f1)))) = w29 at n0_ n1_ ⊢
      have BK173 := n0_
      have HB := n1_
      clear n0_ n1_
      replace BK173 := bd_ BK173
      replace HB := be_ HB
      have p174 : 0 ≤ (x10_2 : Int) := od_
      have q174 : x10_2 < (l1.length : Int) := od_
      obtain ⟨ad174, e174, hx174_0, hx174_1, hx174_2, hx174_3⟩ := at_T46 HR1.out x10_2 p174 q174
      have hw174_3 := hx174_3
      have hw174_2 := hx174_2
      have hw174_1 := hx174_1
      have hw174_0 := hx174_0
      cases e174
      replace hx174_0 := clTr HB.out hx174_0
      replace hx174_1 := clTr HB.out hx174_1
      replace hx174_2 := clTr HB.out hx174_2
      replace hx174_3 := clTr HB.out hx174_3
      replace p174 := eq_true p174
      replace q174 := eq_true q174
      refine start_ (n := 13) (S := fun w' => w'.cell? ⟨gb173, 0, none⟩ = some (.int .i64 ((rd_T150 l2 (ji17)).f0.f0)) ∧ w'.cell? ⟨gb173, 1, none⟩ = some (.int .i64 ((rd_T150 l2 (ji17)).f0.f1)) ∧ w'.cell? ⟨gb173, 2, none⟩ = some (.int .i64 ((rd_T150 l2 (ji17)).f0.f2)) ∧ w'.cell? ⟨gb173, 3, none⟩ = some (.bool (!((rd_T150 l2 (ji17)).f1))) ∧ w'.cell? (ad174.add ((x10_2).toNat * 4)) = some (.int .i64 ((rd_T46 l1 x10_2).f0.f0)) ∧ w'.cell? ⟨(ad174.add ((x10_2).toNat * 4)).block, (ad174.add ((x10_2).toNat * 4)).off + 1, none⟩ = some (.int .i64 ((rd_T46 l1 x10_2).f0.f1)) ∧ w'.cell? ⟨(ad174.add ((x10_2).toNat * 4)).block, (ad174.add ((x10_2).toNat * 4)).off + 2, none⟩ = some (.int .i64 ((rd_T46 l1 x10_2).f1.f0)) ∧ w'.cell? ⟨(ad174.add ((x10_2).toNat * 4)).block, (ad174.add ((x10_2).toNat * 4)).off + 3, none⟩ = some (.int .i64 ((rd_T46 l1 x10_2).f1.f1))) (ds := []) (bv_ 13 0) (by kernel_rfl) rfl rfl ⟨cz_ BK173 0, cz_ BK173 1, cz_ BK173 2, cz_ BK173 3, (clTr HB.out hw174_0 :), (clTr HB.out hw174_1 :), (clTr HB.out hw174_2 :), (clTr HB.out hw174_3 :)⟩ (fun hHeld => ?_); refine with_tabW spec_l09Free.tab14 spec_l09Free.bits14 (fun HT_ HW_ => ?_)
      generalize w29.drew = w30 at BK173 HB hx174_0 hx174_1 hx174_2 hx174_3 hHeld ⊢
      refine px_ HT_ 0 52 1 ?_
      refine px_ HT_ 1 53 3 ?_
      refine px_ HT_ 2 54 7 ?_
      refine px_ HT_ 3 55 15 ?_
      refine ta_ HT_ HW_ 4 (some 56) (bv_ 13 31) hHeld ?_ (hy := by rintro w' ⟨s0, s1, s2, s3, s4, s5, s6, s7⟩; go_simp; with_reducible rfl)
      refine ta_ HT_ HW_ 5 (some 57) (bv_ 13 63) hHeld ?_ (hy := by rintro w' ⟨s0, s1, s2, s3, s4, s5, s6, s7⟩; go_simp; with_reducible rfl)
      refine join_ (σ := Nat) 2 (bv_ 13 2047) (fun s_ => [(58, .tuple #[.agg #[.int .i64 t175, .int .i64 t176, .int .i64 t177, .bool t178], .bool true]), (12, .pointer (some ⟨s_, 0, none⟩)), (51, .tuple #[.agg #[.int .i64 t175, .int .i64 t176, .int .i64 t177, .bool t178], .bool true]), (59, .agg #[.int .i64 t175, .int .i64 t176, .int .i64 t177, .bool t178]), (60, .bool true)]) (fun s_ w' => (w'.cell? ⟨gb173, 0, none⟩ = some (.int .i64 ((rd_T150 l2 (ji17)).f0.f0)) ∧ w'.cell? ⟨gb173, 1, none⟩ = some (.int .i64 ((rd_T150 l2 (ji17)).f0.f1)) ∧ w'.cell? ⟨gb173, 2, none⟩ = some (.int .i64 ((rd_T150 l2 (ji17)).f0.f2)) ∧ w'.cell? ⟨gb173, 3, none⟩ = some (.bool (!((rd_T150 l2 (ji17)).f1))) ∧ w'.cell? (ad174.add ((x10_2).toNat * 4)) = some (.int .i64 ((rd_T46 l1 x10_2).f0.f0)) ∧ w'.cell? ⟨(ad174.add ((x10_2).toNat * 4)).block, (ad174.add ((x10_2).toNat * 4)).off + 1, none⟩ = some (.int .i64 ((rd_T46 l1 x10_2).f0.f1)) ∧ w'.cell? ⟨(ad174.add ((x10_2).toNat * 4)).block, (ad174.add ((x10_2).toNat * 4)).off + 2, none⟩ = some (.int .i64 ((rd_T46 l1 x10_2).f1.f0)) ∧ w'.cell? ⟨(ad174.add ((x10_2).toNat * 4)).block, (ad174.add ((x10_2).toNat * 4)).off + 3, none⟩ = some (.int .i64 ((rd_T46 l1 x10_2).f1.f1))) ∧ (w'.heap[gb173]? = some (.cells #[.int .i64 ((rd_T150 l2 (ji17)).f0.f0), .int .i64 ((rd_T150 l2 (ji17)).f0.f1), .int .i64 ((rd_T150 l2 (ji17)).f0.f2), .bool (!((rd_T150 l2 (ji17)).f1))] 150 (0, 0))) ∧ (w'.heap[s_]? = some (.cells #[.int .i64 0, .int .i64 0, .int .i64 0, .bool false] 150 (0, 0))) ∧ (w.heap.size ≤ s_) ∧ (w.heap.size ≤ s_) ∧ (gb173 ≠ s_) ∧ (s_ ≠ gb173) ∧ (Below w.heap.size w w')) ?_ ?_
      rotate_left
      ·intro hCont
       refine tw_ HT_ 6 10 (some 58) (some 12) (bv_ 13 127) (bv_ 13 1087) (fun K hK => ?_) (fun K hK => ?_)
       ·skip
        refine gs_ Try.func197 #[.int .i64 a0, .agg #[.int .i64 ((rd_T46 l1 x10_2).f0.f0), .int .i64 ((rd_T46 l1 x10_2).f0.f1), .int .i64 ((rd_T46 l1 x10_2).f1.f0), .int .i64 ((rd_T46 l1 x10_2).f1.f1)], .agg #[.int .i64 ((rd_T150 l2 (ji17)).f0.f0), .int .i64 ((rd_T150 l2 (ji17)).f0.f1), .int .i64 ((rd_T150 l2 (ji17)).f0.f2), .bool (!((rd_T150 l2 (ji17)).f1))]] ?_ (hargs := by (try simp only [List.map_toArray, List.map_cons, List.map_nil]); first | done | (simp only [hji17]; rfl) | rfl | (simp only [List.length_drop, List.length_take]; rfl))
        with_reducible refine (spec_l09Move.calls k2 a0 ((rd_T46 l1 x10_2).f0.f0) ((rd_T46 l1 x10_2).f0.f1) ((rd_T46 l1 x10_2).f1.f0) ((rd_T46 l1 x10_2).f1.f1) ((rd_T150 l2 (ji17)).f0.f0) ((rd_T150 l2 (ji17)).f0.f1) ((rd_T150 l2 (ji17)).f0.f2) (!((rd_T150 l2 (ji17)).f1)) t175 t176 t177 t178 true _ A21.out).mono ?_
        rintro e w31 ⟨rfl, hb⟩
        refine ⟨_, rfl, ?_⟩
        replace BK173 := bb_ BK173 hb
        replace HB := bt_ HB hb
        try clear hb
        refine hK.out _ _ ⟨cz_ BK173 0, cz_ BK173 1, cz_ BK173 2, cz_ BK173 3, (clTr HB.out hw174_0 :), (clTr HB.out hw174_1 :), (clTr HB.out hw174_2 :), (clTr HB.out hw174_3 :)⟩ (fun hHeld => ?_)
        clear hK K
        refine nm_ (some 58) ?_
        refine px_ HT_ 7 51 255 ?_
        refine px_ HT_ 8 59 511 ?_
        refine px_ HT_ 9 60 1023 ?_
        refine on_ HT_ 10 (some 12) (bv_ 13 2047) (fun K hK => ?_)
        refine bz_ 12 #[.int .i64 0, .int .i64 0, .int .i64 0, .bool false] 150 ?_
        intro gb180 hg w32 BK180 hb
        have GW180 := bs_ HB hg
        have NB173_180 := bm_ BK173 hg
        have NB180_173 := bn_ BK173 hg
        replace BK173 := bb_ BK173 hb
        replace HB := bt_ HB hb
        clear hb hg
        refine hK.out _ _ ⟨cz_ BK173 0, cz_ BK173 1, cz_ BK173 2, cz_ BK173 3, (clTr HB.out hw174_0 :), (clTr HB.out hw174_1 :), (clTr HB.out hw174_2 :), (clTr HB.out hw174_3 :)⟩ (fun hHeld => ?_)
        clear hK K
        refine nm_ (some 12) ?_
        exact norm_ (by simp only [putAll, Act.put, lstS, lstZ, lstC]) (hCont (gb180) _ ⟨hHeld, (bl_ BK173).out, (bl_ BK180).out, GW180.out, GW180.out, NB173_180.out, NB180_173.out, (bw_ HB).out⟩)
       skip
       refine bz_ 12 #[.int .i64 0, .int .i64 0, .int .i64 0, .bool false] 150 ?_
       intro gb180 hg w31 BK180 hb
       have GW180 := bs_ HB hg
       have NB173_180 := bm_ BK173 hg
       have NB180_173 := bn_ BK173 hg
       replace BK173 := bb_ BK173 hb
       replace HB := bt_ HB hb
       clear hb hg
       refine hK.out _ _ ⟨cz_ BK173 0, cz_ BK173 1, cz_ BK173 2, cz_ BK173 3, (clTr HB.out hw174_0 :), (clTr HB.out hw174_1 :), (clTr HB.out hw174_2 :), (clTr HB.out hw174_3 :)⟩ (fun hHeld => ?_)
       clear hK K
       refine nm_ (some 12) ?_
       refine on_ HT_ 6 (some 58) (bv_ 13 1151) (fun K hK => ?_)
       refine gs_ Try.func197 #[.int .i64 a0, .agg #[.int .i64 ((rd_T46 l1 x10_2).f0.f0), .int .i64 ((rd_T46 l1 x10_2).f0.f1), .int .i64 ((rd_T46 l1 x10_2).f1.f0), .int .i64 ((rd_T46 l1 x10_2).f1.f1)], .agg #[.int .i64 ((rd_T150 l2 (ji17)).f0.f0), .int .i64 ((rd_T150 l2 (ji17)).f0.f1), .int .i64 ((rd_T150 l2 (ji17)).f0.f2), .bool (!((rd_T150 l2 (ji17)).f1))]] ?_ (hargs := by (try simp only [List.map_toArray, List.map_cons, List.map_nil]); first | done | (simp only [hji17]; rfl) | rfl | (simp only [List.length_drop, List.length_take]; rfl))
       with_reducible refine (spec_l09Move.calls k2 a0 ((rd_T46 l1 x10_2).f0.f0) ((rd_T46 l1 x10_2).f0.f1) ((rd_T46 l1 x10_2).f1.f0) ((rd_T46 l1 x10_2).f1.f1) ((rd_T150 l2 (ji17)).f0.f0) ((rd_T150 l2 (ji17)).f0.f1) ((rd_T150 l2 (ji17)).f0.f2) (!((rd_T150 l2 (ji17)).f1)) t175 t176 t177 t178 true _ A21.out).mono ?_
       rintro e w32 ⟨rfl, hb⟩
       refine ⟨_, rfl, ?_⟩
       replace BK173 := bb_ BK173 hb
       replace BK180 := bb_ BK180 hb
       replace HB := bt_ HB hb
       try clear hb
       refine hK.out _ _ ⟨cz_ BK173 0, cz_ BK173 1, cz_ BK173 2, cz_ BK173 3, (clTr HB.out hw174_0 :), (clTr HB.out hw174_1 :), (clTr HB.out hw174_2 :), (clTr HB.out hw174_3 :)⟩ (fun hHeld => ?_)
       clear hK K
       refine nm_ (some 58) ?_
       refine px_ HT_ 7 51 1279 ?_
       refine px_ HT_ 8 59 1535 ?_
       refine px_ HT_ 9 60 2047 ?_
       exact norm_ (by simp only [putAll, Act.put, lstS, lstZ, lstC]) (hCont (gb180) _ ⟨hHeld, (bl_ BK173).out, (bl_ BK180).out, GW180.out, GW180.out, NB173_180.out, NB180_173.out, (bw_ HB).out⟩)
      rintro gb180 w33 ⟨hS_, h0_, h1_, h2_, h3_, h4_, h5_, h6_⟩
      clear BK173 HB
      have BK173 := Aside0.mk h0_
      have BK180 := Aside0.mk h1_
      have GW180 := Aside0.mk h2_
      have GW180 := Aside0.mk h3_
      have NB173_180 := Aside0.mk h4_
      have NB180_173 := Aside0.mk h5_
      have HB := Aside0.mk h6_
      clear h0_ h1_ h2_ h3_ h4_ h5_ h6_
      have hHeld : w33.cell? ⟨gb173, 0, none⟩ = some (.int .i64 ((rd_T150 l2 (ji17)).f0.f0)) ∧ w33.cell? ⟨gb173, 1, none⟩ = some (.int .i64 ((rd_T150 l2 (ji17)).f0.f1)) ∧ w33.cell? ⟨gb173, 2, none⟩ = some (.int .i64 ((rd_T150 l2 (ji17)).f0.f2)) ∧ w33.cell? ⟨gb173, 3, none⟩ = some (.bool (!((rd_T150 l2 (ji17)).f1))) ∧ w33.cell? (ad174.add ((x10_2).toNat * 4)) = some (.int .i64 ((rd_T46 l1 x10_2).f0.f0)) ∧ w33.cell? ⟨(ad174.add ((x10_2).toNat * 4)).block, (ad174.add ((x10_2).toNat * 4)).off + 1, none⟩ = some (.int .i64 ((rd_T46 l1 x10_2).f0.f1)) ∧ w33.cell? ⟨(ad174.add ((x10_2).toNat * 4)).block, (ad174.add ((x10_2).toNat * 4)).off + 2, none⟩ = some (.int .i64 ((rd_T46 l1 x10_2).f1.f0)) ∧ w33.cell? ⟨(ad174.add ((x10_2).toNat * 4)).block, (ad174.add ((x10_2).toNat * 4)).off + 3, none⟩ = some (.int .i64 ((rd_T46 l1 x10_2).f1.f1)) := hS_
      refine norm_ (a' := ?_) ?_ ?_
      rotate_left
      ·simp only [putAll, Act.put, lstS, lstZ, lstC]
       rfl
      refine on_ HT_ 11 none (bv_ 13 4095) (fun K hK => ?_)
      have hs34 : w33.cell? ⟨gb180, 0, none⟩ = some (.int .i64 0) := (blk_cell BK180.out 0).trans rfl
      have hfs34 := blk_frozen BK180.out 0
      have hns34_0 := NB173_180.out
      have hms34_0 := NB180_173.out
      have hs35 : w33.cell? ⟨gb180, 1, none⟩ = some (.int .i64 0) := (blk_cell BK180.out 1).trans rfl
      have hfs35 := blk_frozen BK180.out 1
      have hns35_0 := NB173_180.out
      have hms35_0 := NB180_173.out
      have hs36 : w33.cell? ⟨gb180, 2, none⟩ = some (.int .i64 0) := (blk_cell BK180.out 2).trans rfl
      have hfs36 := blk_frozen BK180.out 2
      have hns36_0 := NB173_180.out
      have hms36_0 := NB180_173.out
      have hs37 : w33.cell? ⟨gb180, 3, none⟩ = some (.bool false) := (blk_cell BK180.out 3).trans rfl
      have hfs37 := blk_frozen BK180.out 3
      have hns37_0 := NB173_180.out
      have hms37_0 := NB180_173.out
      refine skip_ (w1 := ?_) (by rfl) rfl ?_ ?_
      rotate_left
      ·go_simp
       rfl
      refine hK.out _ _ ⟨(cg_ NB173_180 ((cg_ NB173_180 ((cg_ NB173_180 ((cg_ NB173_180 (hHeld.1)))))))), (cg_ NB173_180 ((cg_ NB173_180 ((cg_ NB173_180 ((cg_ NB173_180 (hHeld.2.1)))))))), (cg_ NB173_180 ((cg_ NB173_180 ((cg_ NB173_180 ((cg_ NB173_180 (hHeld.2.2.1)))))))), (cg_ NB173_180 ((cg_ NB173_180 ((cg_ NB173_180 ((cg_ NB173_180 (hHeld.2.2.2.1)))))))), (cf_ hw174_0 GW180 ((cf_ hw174_0 GW180 ((cf_ hw174_0 GW180 ((cf_ hw174_0 GW180 (hHeld.2.2.2.2.1)))))))), (cf_ hw174_1 GW180 ((cf_ hw174_1 GW180 ((cf_ hw174_1 GW180 ((cf_ hw174_1 GW180 (hHeld.2.2.2.2.2.1)))))))), (cf_ hw174_2 GW180 ((cf_ hw174_2 GW180 ((cf_ hw174_2 GW180 ((cf_ hw174_2 GW180 (hHeld.2.2.2.2.2.2.1)))))))), (cf_ hw174_3 GW180 ((cf_ hw174_3 GW180 ((cf_ hw174_3 GW180 ((cf_ hw174_3 GW180 (hHeld.2.2.2.2.2.2.2))))))))⟩ (fun hHeld => ?_)
      clear hK K
      refine px_ HT_ 12 13 8191 ?_
      refine done_ (done_of HT_.out (by kernel_rfl)) ?_
      try go_wp2
      have n0_ : Aside0 (((((w33.setCell ⟨gb180, 0, none⟩ (.int .i64 t175)).setCell ⟨gb180, 1, none⟩ (.int .i64 t176)).setCell ⟨gb180, 2, none⟩ (.int .i64 t177)).setCell ⟨gb180, 3, none⟩ (.bool t178)).heap[gb173]? = some (.cells #[.int .i64 ((rd_T150 l2 (ji17)).f0.f0), .int .i64 ((rd_T150 l2 (ji17)).f0.f1), .int .i64 ((rd_T150 l2 (ji17)).f0.f2), .bool (!((rd_T150 l2 (ji17)).f1))] 150 (0, 0))) := fl_ BK173 NB173_180
      have n1_ : Aside0 (((((w33.setCell ⟨gb180, 0, none⟩ (.int .i64 t175)).setCell ⟨gb180, 1, none⟩ (.int .i64 t176)).setCell ⟨gb180, 2, none⟩ (.int .i64 t177)).setCell ⟨gb180, 3, none⟩ (.bool t178)).heap[gb180]? = some (.cells #[.int .i64 t175, .int .i64 t176, .int .i64 t177, .bool t178] 150 (0, 0))) := bp_ BK180
      have n2_ : Aside0 (Below w.heap.size w ((((w33.setCell ⟨gb180, 0, none⟩ (.int .i64 t175)).setCell ⟨gb180, 1, none⟩ (.int .i64 t176)).setCell ⟨gb180, 2, none⟩ (.int .i64 t177)).setCell ⟨gb180, 3, none⟩ (.bool t178))) := bw_ HB
      (try clear BK173)
      (try clear BK180)
      (try clear HB)
      generalize ((((w33.setCell ⟨gb180, 0, none⟩ (.int .i64 t175)).setCell ⟨gb180, 1, none⟩ (.int .i64 t176)).setCell ⟨gb180, 2, none⟩ (.int .i64 t177)).setCell ⟨gb180, 3, none⟩ (.bool t178)) = w38 at n0_ n1_ n2_ ⊢
      have BK173 := n0_
      have BK180 := n1_
      have HB := n2_
      clear n0_ n1_ n2_
      replace BK173 := bd_ BK173
      replace BK180 := bd_ BK180
      replace HB := be_ HB
      have p181 : 0 ≤ ((ji23) : Int) := od_
      have q181 : (ji23) < (l2.length : Int) := od_
      obtain ⟨ad181, e181, hx181_0, hx181_1, hx181_2, hx181_3⟩ := at_T150 HR2.out (ji23) p181 q181
      have hw181_3 := hx181_3
      have hw181_2 := hx181_2
      have hw181_1 := hx181_1
      have hw181_0 := hx181_0
      obtain rfl : ad172 = ad181 := (by injection e181)
      replace hx181_0 := clTr HB.out hx181_0
      replace hx181_1 := clTr HB.out hx181_1
      replace hx181_2 := clTr HB.out hx181_2
      replace hx181_3 := clTr HB.out hx181_3
      replace p181 := eq_true p181
      replace q181 := eq_true q181
      refine start_ (n := 8) (S := fun w' => w'.cell? ⟨gb180, 0, none⟩ = some (.int .i64 t175) ∧ w'.cell? ⟨gb180, 1, none⟩ = some (.int .i64 t176) ∧ w'.cell? ⟨gb180, 2, none⟩ = some (.int .i64 t177) ∧ w'.cell? ⟨gb180, 3, none⟩ = some (.bool t178) ∧ w'.cell? (ad172.add (((ji23)).toNat * 4)) = some (.int .i64 ((rd_T150 l2 (ji23)).f0.f0)) ∧ w'.cell? ⟨(ad172.add (((ji23)).toNat * 4)).block, (ad172.add (((ji23)).toNat * 4)).off + 1, none⟩ = some (.int .i64 ((rd_T150 l2 (ji23)).f0.f1)) ∧ w'.cell? ⟨(ad172.add (((ji23)).toNat * 4)).block, (ad172.add (((ji23)).toNat * 4)).off + 2, none⟩ = some (.int .i64 ((rd_T150 l2 (ji23)).f0.f2)) ∧ w'.cell? ⟨(ad172.add (((ji23)).toNat * 4)).block, (ad172.add (((ji23)).toNat * 4)).off + 3, none⟩ = some (.bool ((rd_T150 l2 (ji23)).f1))) (ds := []) (bv_ 8 0) (by kernel_rfl) rfl rfl ⟨cz_ BK180 0, cz_ BK180 1, cz_ BK180 2, cz_ BK180 3, (clTr HB.out hw181_0 :), (clTr HB.out hw181_1 :), (clTr HB.out hw181_2 :), (clTr HB.out hw181_3 :)⟩ (fun hHeld => ?_); refine with_tabW spec_l09Free.tab17 spec_l09Free.bits17 (fun HT_ HW_ => ?_)
      generalize w38.drew = w39 at BK173 BK180 HB hx181_0 hx181_1 hx181_2 hx181_3 hHeld ⊢
      refine px_ HT_ 1 64 2 ?_
      refine px_ HT_ 2 65 6 ?_
      refine px_ HT_ 3 66 14 ?_
      refine px_ HT_ 4 67 30 ?_
      refine px_ HT_ 5 68 62 ?_
      refine ta_ HT_ HW_ 0 (some 63) (bv_ 8 63) hHeld ?_ (hy := by rintro w' ⟨s0, s1, s2, s3, s4, s5, s6, s7⟩; go_simp; with_reducible rfl)
      refine ta_ HT_ HW_ 6 (some 69) (bv_ 8 127) hHeld ?_ (hy := by rintro w' ⟨s0, s1, s2, s3, s4, s5, s6, s7⟩; go_simp; with_reducible rfl)
      refine px_ HT_ 7 70 255 ?_
      refine done_ (done_of HT_.out (by kernel_rfl)) ?_
      try go_wp2
      go_ret2
      exact ⟨by first | rfl | (simp [errW_none, errW_some] <;> rfl) | (simp only [← hji17, ← hji23]; first | rfl | (simp [errW_none, errW_some] <;> rfl)) | (simp [*, errW_none, errW_some] <;> rfl), (bw_ HB).out⟩
     rw [if_neg c26] at H
     have c26b0 : ((!(t175 == ((rd_T150 l2 (ji23)).f0.f0)) || (!(t176 == ((rd_T150 l2 (ji23)).f0.f1)) || (!(t177 == ((rd_T150 l2 (ji23)).f0.f2))))) || (!(t178 == ((rd_T150 l2 (ji23)).f1)))) = false := by simpa using c26
     clear c26
     have H' := Aside0.mk H
     clear H
     have p172 : 0 ≤ ((ji17) : Int) := od_
     have q172 : (ji17) < (l2.length : Int) := od_
     obtain ⟨ad172, e172, hx172_0, hx172_1, hx172_2, hx172_3⟩ := at_T150 HR2.out (ji17) p172 q172
     cases e172
     replace hx172_0 := clTr HB.out hx172_0
     replace hx172_1 := clTr HB.out hx172_1
     replace hx172_2 := clTr HB.out hx172_2
     replace hx172_3 := clTr HB.out hx172_3
     replace p172 := eq_true p172
     replace q172 := eq_true q172
     try go_wp2_with (first | ((refine gd_ 11 ?_); refine by_ 11 #[.int .i64 0, .int .i64 0, .int .i64 0, .bool false] 150 HB ?_; intro gb173 hg w40 BK173 hb GW173 HB_; replace HB := HB_; clear hb hg; obtain ⟨hcz41_0, hcz41_1, hcz41_2, hcz41_3, hfz41_0, hfz41_1, hfz41_2, hfz41_3⟩ := ch4_ BK173))
     have n0_ : Aside0 ((((((w40.setCell ⟨gb173, 0, none⟩ (.int .i64 ((rd_T150 l2 (ji17)).f0.f0))).setCell ⟨gb173, 1, none⟩ (.int .i64 ((rd_T150 l2 (ji17)).f0.f1))).setCell ⟨gb173, 2, none⟩ (.int .i64 ((rd_T150 l2 (ji17)).f0.f2))).setCell ⟨gb173, 3, none⟩ (.bool ((rd_T150 l2 (ji17)).f1))).setCell ⟨gb173, 3, none⟩ (.bool (!((rd_T150 l2 (ji17)).f1)))).heap[gb173]? = some (.cells #[.int .i64 ((rd_T150 l2 (ji17)).f0.f0), .int .i64 ((rd_T150 l2 (ji17)).f0.f1), .int .i64 ((rd_T150 l2 (ji17)).f0.f2), .bool (!((rd_T150 l2 (ji17)).f1))] 150 (0, 0))) := bp_ BK173
     have n1_ : Aside0 (Below w.heap.size w (((((w40.setCell ⟨gb173, 0, none⟩ (.int .i64 ((rd_T150 l2 (ji17)).f0.f0))).setCell ⟨gb173, 1, none⟩ (.int .i64 ((rd_T150 l2 (ji17)).f0.f1))).setCell ⟨gb173, 2, none⟩ (.int .i64 ((rd_T150 l2 (ji17)).f0.f2))).setCell ⟨gb173, 3, none⟩ (.bool ((rd_T150 l2 (ji17)).f1))).setCell ⟨gb173, 3, none⟩ (.bool (!((rd_T150 l2 (ji17)).f1))))) := bw_ HB
     (try clear BK173)
     (try clear HB)
     generalize (((((w40.setCell ⟨gb173, 0, none⟩ (.int .i64 ((rd_T150 l2 (ji17)).f0.f0))).setCell ⟨gb173, 1, none⟩ (.int .i64 ((rd_T150 l2 (ji17)).f0.f1))).setCell ⟨gb173, 2, none⟩ (.int .i64 ((rd_T150 l2 (ji17)).f0.f2))).setCell ⟨gb173, 3, none⟩ (.bool ((rd_T150 l2 (ji17)).f1))).setCell ⟨gb173, 3, none⟩ (.bool (!((rd_T150 l2 (ji17)).f1)))) = w42 at n0_ n1_ ⊢
     have BK173 := n0_
     have HB := n1_
     clear n0_ n1_
     replace BK173 := bd_ BK173
     replace HB := be_ HB
     have p174 : 0 ≤ (x10_2 : Int) := od_
     have q174 : x10_2 < (l1.length : Int) := od_
     obtain ⟨ad174, e174, hx174_0, hx174_1, hx174_2, hx174_3⟩ := at_T46 HR1.out x10_2 p174 q174
     have hw174_3 := hx174_3
     have hw174_2 := hx174_2
     have hw174_1 := hx174_1
     have hw174_0 := hx174_0
     cases e174
     replace hx174_0 := clTr HB.out hx174_0
     replace hx174_1 := clTr HB.out hx174_1
     replace hx174_2 := clTr HB.out hx174_2
     replace hx174_3 := clTr HB.out hx174_3
     replace p174 := eq_true p174
     replace q174 := eq_true q174
     refine start_ (n := 13) (S := fun w' => w'.cell? ⟨gb173, 0, none⟩ = some (.int .i64 ((rd_T150 l2 (ji17)).f0.f0)) ∧ w'.cell? ⟨gb173, 1, none⟩ = some (.int .i64 ((rd_T150 l2 (ji17)).f0.f1)) ∧ w'.cell? ⟨gb173, 2, none⟩ = some (.int .i64 ((rd_T150 l2 (ji17)).f0.f2)) ∧ w'.cell? ⟨gb173, 3, none⟩ = some (.bool (!((rd_T150 l2 (ji17)).f1))) ∧ w'.cell? (ad174.add ((x10_2).toNat * 4)) = some (.int .i64 ((rd_T46 l1 x10_2).f0.f0)) ∧ w'.cell? ⟨(ad174.add ((x10_2).toNat * 4)).block, (ad174.add ((x10_2).toNat * 4)).off + 1, none⟩ = some (.int .i64 ((rd_T46 l1 x10_2).f0.f1)) ∧ w'.cell? ⟨(ad174.add ((x10_2).toNat * 4)).block, (ad174.add ((x10_2).toNat * 4)).off + 2, none⟩ = some (.int .i64 ((rd_T46 l1 x10_2).f1.f0)) ∧ w'.cell? ⟨(ad174.add ((x10_2).toNat * 4)).block, (ad174.add ((x10_2).toNat * 4)).off + 3, none⟩ = some (.int .i64 ((rd_T46 l1 x10_2).f1.f1))) (ds := []) (bv_ 13 0) (by kernel_rfl) rfl rfl ⟨cz_ BK173 0, cz_ BK173 1, cz_ BK173 2, cz_ BK173 3, (clTr HB.out hw174_0 :), (clTr HB.out hw174_1 :), (clTr HB.out hw174_2 :), (clTr HB.out hw174_3 :)⟩ (fun hHeld => ?_); refine with_tabW spec_l09Free.tab14 spec_l09Free.bits14 (fun HT_ HW_ => ?_)
     generalize w42.drew = w43 at BK173 HB hx174_0 hx174_1 hx174_2 hx174_3 hHeld ⊢
     refine px_ HT_ 0 52 1 ?_
     refine px_ HT_ 1 53 3 ?_
     refine px_ HT_ 2 54 7 ?_
     refine px_ HT_ 3 55 15 ?_
     refine ta_ HT_ HW_ 4 (some 56) (bv_ 13 31) hHeld ?_ (hy := by rintro w' ⟨s0, s1, s2, s3, s4, s5, s6, s7⟩; go_simp; with_reducible rfl)
     refine ta_ HT_ HW_ 5 (some 57) (bv_ 13 63) hHeld ?_ (hy := by rintro w' ⟨s0, s1, s2, s3, s4, s5, s6, s7⟩; go_simp; with_reducible rfl)
     refine join_ (σ := Nat) 2 (bv_ 13 2047) (fun s_ => [(58, .tuple #[.agg #[.int .i64 t175, .int .i64 t176, .int .i64 t177, .bool t178], .bool true]), (12, .pointer (some ⟨s_, 0, none⟩)), (51, .tuple #[.agg #[.int .i64 t175, .int .i64 t176, .int .i64 t177, .bool t178], .bool true]), (59, .agg #[.int .i64 t175, .int .i64 t176, .int .i64 t177, .bool t178]), (60, .bool true)]) (fun s_ w' => (w'.cell? ⟨gb173, 0, none⟩ = some (.int .i64 ((rd_T150 l2 (ji17)).f0.f0)) ∧ w'.cell? ⟨gb173, 1, none⟩ = some (.int .i64 ((rd_T150 l2 (ji17)).f0.f1)) ∧ w'.cell? ⟨gb173, 2, none⟩ = some (.int .i64 ((rd_T150 l2 (ji17)).f0.f2)) ∧ w'.cell? ⟨gb173, 3, none⟩ = some (.bool (!((rd_T150 l2 (ji17)).f1))) ∧ w'.cell? (ad174.add ((x10_2).toNat * 4)) = some (.int .i64 ((rd_T46 l1 x10_2).f0.f0)) ∧ w'.cell? ⟨(ad174.add ((x10_2).toNat * 4)).block, (ad174.add ((x10_2).toNat * 4)).off + 1, none⟩ = some (.int .i64 ((rd_T46 l1 x10_2).f0.f1)) ∧ w'.cell? ⟨(ad174.add ((x10_2).toNat * 4)).block, (ad174.add ((x10_2).toNat * 4)).off + 2, none⟩ = some (.int .i64 ((rd_T46 l1 x10_2).f1.f0)) ∧ w'.cell? ⟨(ad174.add ((x10_2).toNat * 4)).block, (ad174.add ((x10_2).toNat * 4)).off + 3, none⟩ = some (.int .i64 ((rd_T46 l1 x10_2).f1.f1))) ∧ (w'.heap[gb173]? = some (.cells #[.int .i64 ((rd_T150 l2 (ji17)).f0.f0), .int .i64 ((rd_T150 l2 (ji17)).f0.f1), .int .i64 ((rd_T150 l2 (ji17)).f0.f2), .bool (!((rd_T150 l2 (ji17)).f1))] 150 (0, 0))) ∧ (w'.heap[s_]? = some (.cells #[.int .i64 0, .int .i64 0, .int .i64 0, .bool false] 150 (0, 0))) ∧ (w.heap.size ≤ s_) ∧ (w.heap.size ≤ s_) ∧ (gb173 ≠ s_) ∧ (s_ ≠ gb173) ∧ (Below w.heap.size w w')) ?_ ?_
     rotate_left
     ·intro hCont
      refine tw_ HT_ 6 10 (some 58) (some 12) (bv_ 13 127) (bv_ 13 1087) (fun K hK => ?_) (fun K hK => ?_)
      ·skip
       refine gs_ Try.func197 #[.int .i64 a0, .agg #[.int .i64 ((rd_T46 l1 x10_2).f0.f0), .int .i64 ((rd_T46 l1 x10_2).f0.f1), .int .i64 ((rd_T46 l1 x10_2).f1.f0), .int .i64 ((rd_T46 l1 x10_2).f1.f1)], .agg #[.int .i64 ((rd_T150 l2 (ji17)).f0.f0), .int .i64 ((rd_T150 l2 (ji17)).f0.f1), .int .i64 ((rd_T150 l2 (ji17)).f0.f2), .bool (!((rd_T150 l2 (ji17)).f1))]] ?_ (hargs := by (try simp only [List.map_toArray, List.map_cons, List.map_nil]); first | done | (simp only [hji17]; rfl) | rfl | (simp only [List.length_drop, List.length_take]; rfl))
       with_reducible refine (spec_l09Move.calls k2 a0 ((rd_T46 l1 x10_2).f0.f0) ((rd_T46 l1 x10_2).f0.f1) ((rd_T46 l1 x10_2).f1.f0) ((rd_T46 l1 x10_2).f1.f1) ((rd_T150 l2 (ji17)).f0.f0) ((rd_T150 l2 (ji17)).f0.f1) ((rd_T150 l2 (ji17)).f0.f2) (!((rd_T150 l2 (ji17)).f1)) t175 t176 t177 t178 true _ A21.out).mono ?_
       rintro e w44 ⟨rfl, hb⟩
       refine ⟨_, rfl, ?_⟩
       replace BK173 := bb_ BK173 hb
       replace HB := bt_ HB hb
       try clear hb
       refine hK.out _ _ ⟨cz_ BK173 0, cz_ BK173 1, cz_ BK173 2, cz_ BK173 3, (clTr HB.out hw174_0 :), (clTr HB.out hw174_1 :), (clTr HB.out hw174_2 :), (clTr HB.out hw174_3 :)⟩ (fun hHeld => ?_)
       clear hK K
       refine nm_ (some 58) ?_
       refine px_ HT_ 7 51 255 ?_
       refine px_ HT_ 8 59 511 ?_
       refine px_ HT_ 9 60 1023 ?_
       refine on_ HT_ 10 (some 12) (bv_ 13 2047) (fun K hK => ?_)
       refine bz_ 12 #[.int .i64 0, .int .i64 0, .int .i64 0, .bool false] 150 ?_
       intro gb180 hg w45 BK180 hb
       have GW180 := bs_ HB hg
       have NB173_180 := bm_ BK173 hg
       have NB180_173 := bn_ BK173 hg
       replace BK173 := bb_ BK173 hb
       replace HB := bt_ HB hb
       clear hb hg
       refine hK.out _ _ ⟨cz_ BK173 0, cz_ BK173 1, cz_ BK173 2, cz_ BK173 3, (clTr HB.out hw174_0 :), (clTr HB.out hw174_1 :), (clTr HB.out hw174_2 :), (clTr HB.out hw174_3 :)⟩ (fun hHeld => ?_)
       clear hK K
       refine nm_ (some 12) ?_
       exact norm_ (by simp only [putAll, Act.put, lstS, lstZ, lstC]) (hCont (gb180) _ ⟨hHeld, (bl_ BK173).out, (bl_ BK180).out, GW180.out, GW180.out, NB173_180.out, NB180_173.out, (bw_ HB).out⟩)
      skip
      refine bz_ 12 #[.int .i64 0, .int .i64 0, .int .i64 0, .bool false] 150 ?_
      intro gb180 hg w44 BK180 hb
      have GW180 := bs_ HB hg
      have NB173_180 := bm_ BK173 hg
      have NB180_173 := bn_ BK173 hg
      replace BK173 := bb_ BK173 hb
      replace HB := bt_ HB hb
      clear hb hg
      refine hK.out _ _ ⟨cz_ BK173 0, cz_ BK173 1, cz_ BK173 2, cz_ BK173 3, (clTr HB.out hw174_0 :), (clTr HB.out hw174_1 :), (clTr HB.out hw174_2 :), (clTr HB.out hw174_3 :)⟩ (fun hHeld => ?_)
      clear hK K
      refine nm_ (some 12) ?_
      refine on_ HT_ 6 (some 58) (bv_ 13 1151) (fun K hK => ?_)
      refine gs_ Try.func197 #[.int .i64 a0, .agg #[.int .i64 ((rd_T46 l1 x10_2).f0.f0), .int .i64 ((rd_T46 l1 x10_2).f0.f1), .int .i64 ((rd_T46 l1 x10_2).f1.f0), .int .i64 ((rd_T46 l1 x10_2).f1.f1)], .agg #[.int .i64 ((rd_T150 l2 (ji17)).f0.f0), .int .i64 ((rd_T150 l2 (ji17)).f0.f1), .int .i64 ((rd_T150 l2 (ji17)).f0.f2), .bool (!((rd_T150 l2 (ji17)).f1))]] ?_ (hargs := by (try simp only [List.map_toArray, List.map_cons, List.map_nil]); first | done | (simp only [hji17]; rfl) | rfl | (simp only [List.length_drop, List.length_take]; rfl))
      with_reducible refine (spec_l09Move.calls k2 a0 ((rd_T46 l1 x10_2).f0.f0) ((rd_T46 l1 x10_2).f0.f1) ((rd_T46 l1 x10_2).f1.f0) ((rd_T46 l1 x10_2).f1.f1) ((rd_T150 l2 (ji17)).f0.f0) ((rd_T150 l2 (ji17)).f0.f1) ((rd_T150 l2 (ji17)).f0.f2) (!((rd_T150 l2 (ji17)).f1)) t175 t176 t177 t178 true _ A21.out).mono ?_
      rintro e w45 ⟨rfl, hb⟩
      refine ⟨_, rfl, ?_⟩
      replace BK173 := bb_ BK173 hb
      replace BK180 := bb_ BK180 hb
      replace HB := bt_ HB hb
      try clear hb
      refine hK.out _ _ ⟨cz_ BK173 0, cz_ BK173 1, cz_ BK173 2, cz_ BK173 3, (clTr HB.out hw174_0 :), (clTr HB.out hw174_1 :), (clTr HB.out hw174_2 :), (clTr HB.out hw174_3 :)⟩ (fun hHeld => ?_)
      clear hK K
      refine nm_ (some 58) ?_
      refine px_ HT_ 7 51 1279 ?_
      refine px_ HT_ 8 59 1535 ?_
      refine px_ HT_ 9 60 2047 ?_
      exact norm_ (by simp only [putAll, Act.put, lstS, lstZ, lstC]) (hCont (gb180) _ ⟨hHeld, (bl_ BK173).out, (bl_ BK180).out, GW180.out, GW180.out, NB173_180.out, NB180_173.out, (bw_ HB).out⟩)
     rintro gb180 w46 ⟨hS_, h0_, h1_, h2_, h3_, h4_, h5_, h6_⟩
     clear BK173 HB
     have BK173 := Aside0.mk h0_
     have BK180 := Aside0.mk h1_
     have GW180 := Aside0.mk h2_
     have GW180 := Aside0.mk h3_
     have NB173_180 := Aside0.mk h4_
     have NB180_173 := Aside0.mk h5_
     have HB := Aside0.mk h6_
     clear h0_ h1_ h2_ h3_ h4_ h5_ h6_
     have hHeld : w46.cell? ⟨gb173, 0, none⟩ = some (.int .i64 ((rd_T150 l2 (ji17)).f0.f0)) ∧ w46.cell? ⟨gb173, 1, none⟩ = some (.int .i64 ((rd_T150 l2 (ji17)).f0.f1)) ∧ w46.cell? ⟨gb173, 2, none⟩ = some (.int .i64 ((rd_T150 l2 (ji17)).f0.f2)) ∧ w46.cell? ⟨gb173, 3, none⟩ = some (.bool (!((rd_T150 l2 (ji17)).f1))) ∧ w46.cell? (ad174.add ((x10_2).toNat * 4)) = some (.int .i64 ((rd_T46 l1 x10_2).f0.f0)) ∧ w46.cell? ⟨(ad174.add ((x10_2).toNat * 4)).block, (ad174.add ((x10_2).toNat * 4)).off + 1, none⟩ = some (.int .i64 ((rd_T46 l1 x10_2).f0.f1)) ∧ w46.cell? ⟨(ad174.add ((x10_2).toNat * 4)).block, (ad174.add ((x10_2).toNat * 4)).off + 2, none⟩ = some (.int .i64 ((rd_T46 l1 x10_2).f1.f0)) ∧ w46.cell? ⟨(ad174.add ((x10_2).toNat * 4)).block, (ad174.add ((x10_2).toNat * 4)).off + 3, none⟩ = some (.int .i64 ((rd_T46 l1 x10_2).f1.f1)) := hS_
     refine norm_ (a' := ?_) ?_ ?_
     rotate_left
     ·simp only [putAll, Act.put, lstS, lstZ, lstC]
      rfl
     refine on_ HT_ 11 none (bv_ 13 4095) (fun K hK => ?_)
     have hs47 : w46.cell? ⟨gb180, 0, none⟩ = some (.int .i64 0) := (blk_cell BK180.out 0).trans rfl
     have hfs47 := blk_frozen BK180.out 0
     have hns47_0 := NB173_180.out
     have hms47_0 := NB180_173.out
     have hs48 : w46.cell? ⟨gb180, 1, none⟩ = some (.int .i64 0) := (blk_cell BK180.out 1).trans rfl
     have hfs48 := blk_frozen BK180.out 1
     have hns48_0 := NB173_180.out
     have hms48_0 := NB180_173.out
     have hs49 : w46.cell? ⟨gb180, 2, none⟩ = some (.int .i64 0) := (blk_cell BK180.out 2).trans rfl
     have hfs49 := blk_frozen BK180.out 2
     have hns49_0 := NB173_180.out
     have hms49_0 := NB180_173.out
     have hs50 : w46.cell? ⟨gb180, 3, none⟩ = some (.bool false) := (blk_cell BK180.out 3).trans rfl
     have hfs50 := blk_frozen BK180.out 3
     have hns50_0 := NB173_180.out
     have hms50_0 := NB180_173.out
     refine skip_ (w1 := ?_) (by rfl) rfl ?_ ?_
     rotate_left
     ·go_simp
      rfl
     refine hK.out _ _ ⟨(cg_ NB173_180 ((cg_ NB173_180 ((cg_ NB173_180 ((cg_ NB173_180 (hHeld.1)))))))), (cg_ NB173_180 ((cg_ NB173_180 ((cg_ NB173_180 ((cg_ NB173_180 (hHeld.2.1)))))))), (cg_ NB173_180 ((cg_ NB173_180 ((cg_ NB173_180 ((cg_ NB173_180 (hHeld.2.2.1)))))))), (cg_ NB173_180 ((cg_ NB173_180 ((cg_ NB173_180 ((cg_ NB173_180 (hHeld.2.2.2.1)))))))), (cf_ hw174_0 GW180 ((cf_ hw174_0 GW180 ((cf_ hw174_0 GW180 ((cf_ hw174_0 GW180 (hHeld.2.2.2.2.1)))))))), (cf_ hw174_1 GW180 ((cf_ hw174_1 GW180 ((cf_ hw174_1 GW180 ((cf_ hw174_1 GW180 (hHeld.2.2.2.2.2.1)))))))), (cf_ hw174_2 GW180 ((cf_ hw174_2 GW180 ((cf_ hw174_2 GW180 ((cf_ hw174_2 GW180 (hHeld.2.2.2.2.2.2.1)))))))), (cf_ hw174_3 GW180 ((cf_ hw174_3 GW180 ((cf_ hw174_3 GW180 ((cf_ hw174_3 GW180 (hHeld.2.2.2.2.2.2.2))))))))⟩ (fun hHeld => ?_)
     clear hK K
     refine px_ HT_ 12 13 8191 ?_
     refine done_ (done_of HT_.out (by kernel_rfl)) ?_
     try go_wp2
     have n0_ : Aside0 (((((w46.setCell ⟨gb180, 0, none⟩ (.int .i64 t175)).setCell ⟨gb180, 1, none⟩ (.int .i64 t176)).setCell ⟨gb180, 2, none⟩ (.int .i64 t177)).setCell ⟨gb180, 3, none⟩ (.bool t178)).heap[gb173]? = some (.cells #[.int .i64 ((rd_T150 l2 (ji17)).f0.f0), .int .i64 ((rd_T150 l2 (ji17)).f0.f1), .int .i64 ((rd_T150 l2 (ji17)).f0.f2), .bool (!((rd_T150 l2 (ji17)).f1))] 150 (0, 0))) := fl_ BK173 NB173_180
     have n1_ : Aside0 (((((w46.setCell ⟨gb180, 0, none⟩ (.int .i64 t175)).setCell ⟨gb180, 1, none⟩ (.int .i64 t176)).setCell ⟨gb180, 2, none⟩ (.int .i64 t177)).setCell ⟨gb180, 3, none⟩ (.bool t178)).heap[gb180]? = some (.cells #[.int .i64 t175, .int .i64 t176, .int .i64 t177, .bool t178] 150 (0, 0))) := bp_ BK180
     have n2_ : Aside0 (Below w.heap.size w ((((w46.setCell ⟨gb180, 0, none⟩ (.int .i64 t175)).setCell ⟨gb180, 1, none⟩ (.int .i64 t176)).setCell ⟨gb180, 2, none⟩ (.int .i64 t177)).setCell ⟨gb180, 3, none⟩ (.bool t178))) := bw_ HB
     (try clear BK173)
     (try clear BK180)
     (try clear HB)
     generalize ((((w46.setCell ⟨gb180, 0, none⟩ (.int .i64 t175)).setCell ⟨gb180, 1, none⟩ (.int .i64 t176)).setCell ⟨gb180, 2, none⟩ (.int .i64 t177)).setCell ⟨gb180, 3, none⟩ (.bool t178)) = w51 at n0_ n1_ n2_ ⊢
     have BK173 := n0_
     have BK180 := n1_
     have HB := n2_
     clear n0_ n1_ n2_
     replace BK173 := bd_ BK173
     replace BK180 := bd_ BK180
     replace HB := be_ HB
     have p181 : 0 ≤ ((ji23) : Int) := od_
     have q181 : (ji23) < (l2.length : Int) := od_
     obtain ⟨ad181, e181, hx181_0, hx181_1, hx181_2, hx181_3⟩ := at_T150 HR2.out (ji23) p181 q181
     have hw181_3 := hx181_3
     have hw181_2 := hx181_2
     have hw181_1 := hx181_1
     have hw181_0 := hx181_0
     obtain rfl : ad172 = ad181 := (by injection e181)
     replace hx181_0 := clTr HB.out hx181_0
     replace hx181_1 := clTr HB.out hx181_1
     replace hx181_2 := clTr HB.out hx181_2
     replace hx181_3 := clTr HB.out hx181_3
     replace p181 := eq_true p181
     replace q181 := eq_true q181
     refine start_ (n := 8) (S := fun w' => w'.cell? ⟨gb180, 0, none⟩ = some (.int .i64 t175) ∧ w'.cell? ⟨gb180, 1, none⟩ = some (.int .i64 t176) ∧ w'.cell? ⟨gb180, 2, none⟩ = some (.int .i64 t177) ∧ w'.cell? ⟨gb180, 3, none⟩ = some (.bool t178) ∧ w'.cell? (ad172.add (((ji23)).toNat * 4)) = some (.int .i64 ((rd_T150 l2 (ji23)).f0.f0)) ∧ w'.cell? ⟨(ad172.add (((ji23)).toNat * 4)).block, (ad172.add (((ji23)).toNat * 4)).off + 1, none⟩ = some (.int .i64 ((rd_T150 l2 (ji23)).f0.f1)) ∧ w'.cell? ⟨(ad172.add (((ji23)).toNat * 4)).block, (ad172.add (((ji23)).toNat * 4)).off + 2, none⟩ = some (.int .i64 ((rd_T150 l2 (ji23)).f0.f2)) ∧ w'.cell? ⟨(ad172.add (((ji23)).toNat * 4)).block, (ad172.add (((ji23)).toNat * 4)).off + 3, none⟩ = some (.bool ((rd_T150 l2 (ji23)).f1))) (ds := []) (bv_ 8 0) (by kernel_rfl) rfl rfl ⟨cz_ BK180 0, cz_ BK180 1, cz_ BK180 2, cz_ BK180 3, (clTr HB.out hw181_0 :), (clTr HB.out hw181_1 :), (clTr HB.out hw181_2 :), (clTr HB.out hw181_3 :)⟩ (fun hHeld => ?_); refine with_tabW spec_l09Free.tab17 spec_l09Free.bits17 (fun HT_ HW_ => ?_)
     generalize w51.drew = w52 at BK173 BK180 HB hx181_0 hx181_1 hx181_2 hx181_3 hHeld ⊢
     refine px_ HT_ 1 64 2 ?_
     refine px_ HT_ 2 65 6 ?_
     refine px_ HT_ 3 66 14 ?_
     refine px_ HT_ 4 67 30 ?_
     refine px_ HT_ 5 68 62 ?_
     refine ta_ HT_ HW_ 0 (some 63) (bv_ 8 63) hHeld ?_ (hy := by rintro w' ⟨s0, s1, s2, s3, s4, s5, s6, s7⟩; go_simp; with_reducible rfl)
     refine ta_ HT_ HW_ 6 (some 69) (bv_ 8 127) hHeld ?_ (hy := by rintro w' ⟨s0, s1, s2, s3, s4, s5, s6, s7⟩; go_simp; with_reducible rfl)
     refine px_ HT_ 7 70 255 ?_
     refine done_ (done_of HT_.out (by kernel_rfl)) ?_
     try go_wp2
     go_roundg k2
     case measure => have := HK1.out; have := HK2.out; omega
     case rel => exact ⟨(wrap64 (x10_2 + 1)), en_, H', ⟨by have := HK1.out; have := HK2.out; omega⟩, bw_ HB⟩
    simp only [Option.some.injEq, Prod.mk.injEq] at H
    obtain ⟨rfl, rfl⟩ := H
    have p172 : 0 ≤ ((ji17) : Int) := od_
    have q172 : (ji17) < (l2.length : Int) := od_
    obtain ⟨ad172, e172, hx172_0, hx172_1, hx172_2, hx172_3⟩ := at_T150 HR2.out (ji17) p172 q172
    cases e172
    replace hx172_0 := clTr HB.out hx172_0
    replace hx172_1 := clTr HB.out hx172_1
    replace hx172_2 := clTr HB.out hx172_2
    replace hx172_3 := clTr HB.out hx172_3
    replace p172 := eq_true p172
    replace q172 := eq_true q172
    try go_wp2_with (first | ((refine gd_ 11 ?_); refine by_ 11 #[.int .i64 0, .int .i64 0, .int .i64 0, .bool false] 150 HB ?_; intro gb173 hg w53 BK173 hb GW173 HB_; replace HB := HB_; clear hb hg; obtain ⟨hcz54_0, hcz54_1, hcz54_2, hcz54_3, hfz54_0, hfz54_1, hfz54_2, hfz54_3⟩ := ch4_ BK173))
    have n0_ : Aside0 ((((((w53.setCell ⟨gb173, 0, none⟩ (.int .i64 ((rd_T150 l2 (ji17)).f0.f0))).setCell ⟨gb173, 1, none⟩ (.int .i64 ((rd_T150 l2 (ji17)).f0.f1))).setCell ⟨gb173, 2, none⟩ (.int .i64 ((rd_T150 l2 (ji17)).f0.f2))).setCell ⟨gb173, 3, none⟩ (.bool ((rd_T150 l2 (ji17)).f1))).setCell ⟨gb173, 3, none⟩ (.bool (!((rd_T150 l2 (ji17)).f1)))).heap[gb173]? = some (.cells #[.int .i64 ((rd_T150 l2 (ji17)).f0.f0), .int .i64 ((rd_T150 l2 (ji17)).f0.f1), .int .i64 ((rd_T150 l2 (ji17)).f0.f2), .bool (!((rd_T150 l2 (ji17)).f1))] 150 (0, 0))) := bp_ BK173
    have n1_ : Aside0 (Below w.heap.size w (((((w53.setCell ⟨gb173, 0, none⟩ (.int .i64 ((rd_T150 l2 (ji17)).f0.f0))).setCell ⟨gb173, 1, none⟩ (.int .i64 ((rd_T150 l2 (ji17)).f0.f1))).setCell ⟨gb173, 2, none⟩ (.int .i64 ((rd_T150 l2 (ji17)).f0.f2))).setCell ⟨gb173, 3, none⟩ (.bool ((rd_T150 l2 (ji17)).f1))).setCell ⟨gb173, 3, none⟩ (.bool (!((rd_T150 l2 (ji17)).f1))))) := bw_ HB
    (try clear BK173)
    (try clear HB)
    generalize (((((w53.setCell ⟨gb173, 0, none⟩ (.int .i64 ((rd_T150 l2 (ji17)).f0.f0))).setCell ⟨gb173, 1, none⟩ (.int .i64 ((rd_T150 l2 (ji17)).f0.f1))).setCell ⟨gb173, 2, none⟩ (.int .i64 ((rd_T150 l2 (ji17)).f0.f2))).setCell ⟨gb173, 3, none⟩ (.bool ((rd_T150 l2 (ji17)).f1))).setCell ⟨gb173, 3, none⟩ (.bool (!((rd_T150 l2 (ji17)).f1)))) = w55 at n0_ n1_ ⊢
    have BK173 := n0_
    have HB := n1_
    clear n0_ n1_
    replace BK173 := bd_ BK173
    replace HB := be_ HB
    have p174 : 0 ≤ (x10_2 : Int) := od_
    have q174 : x10_2 < (l1.length : Int) := od_
    obtain ⟨ad174, e174, hx174_0, hx174_1, hx174_2, hx174_3⟩ := at_T46 HR1.out x10_2 p174 q174
    have hw174_3 := hx174_3
    have hw174_2 := hx174_2
    have hw174_1 := hx174_1
    have hw174_0 := hx174_0
    cases e174
    replace hx174_0 := clTr HB.out hx174_0
    replace hx174_1 := clTr HB.out hx174_1
    replace hx174_2 := clTr HB.out hx174_2
    replace hx174_3 := clTr HB.out hx174_3
    replace p174 := eq_true p174
    replace q174 := eq_true q174
    refine start_ (n := 13) (S := fun w' => w'.cell? ⟨gb173, 0, none⟩ = some (.int .i64 ((rd_T150 l2 (ji17)).f0.f0)) ∧ w'.cell? ⟨gb173, 1, none⟩ = some (.int .i64 ((rd_T150 l2 (ji17)).f0.f1)) ∧ w'.cell? ⟨gb173, 2, none⟩ = some (.int .i64 ((rd_T150 l2 (ji17)).f0.f2)) ∧ w'.cell? ⟨gb173, 3, none⟩ = some (.bool (!((rd_T150 l2 (ji17)).f1))) ∧ w'.cell? (ad174.add ((x10_2).toNat * 4)) = some (.int .i64 ((rd_T46 l1 x10_2).f0.f0)) ∧ w'.cell? ⟨(ad174.add ((x10_2).toNat * 4)).block, (ad174.add ((x10_2).toNat * 4)).off + 1, none⟩ = some (.int .i64 ((rd_T46 l1 x10_2).f0.f1)) ∧ w'.cell? ⟨(ad174.add ((x10_2).toNat * 4)).block, (ad174.add ((x10_2).toNat * 4)).off + 2, none⟩ = some (.int .i64 ((rd_T46 l1 x10_2).f1.f0)) ∧ w'.cell? ⟨(ad174.add ((x10_2).toNat * 4)).block, (ad174.add ((x10_2).toNat * 4)).off + 3, none⟩ = some (.int .i64 ((rd_T46 l1 x10_2).f1.f1))) (ds := []) (bv_ 13 0) (by kernel_rfl) rfl rfl ⟨cz_ BK173 0, cz_ BK173 1, cz_ BK173 2, cz_ BK173 3, (clTr HB.out hw174_0 :), (clTr HB.out hw174_1 :), (clTr HB.out hw174_2 :), (clTr HB.out hw174_3 :)⟩ (fun hHeld => ?_); refine with_tabW spec_l09Free.tab14 spec_l09Free.bits14 (fun HT_ HW_ => ?_)
    generalize w55.drew = w56 at BK173 HB hx174_0 hx174_1 hx174_2 hx174_3 hHeld ⊢
    refine px_ HT_ 0 52 1 ?_
    refine px_ HT_ 1 53 3 ?_
    refine px_ HT_ 2 54 7 ?_
    refine px_ HT_ 3 55 15 ?_
    refine ta_ HT_ HW_ 4 (some 56) (bv_ 13 31) hHeld ?_ (hy := by rintro w' ⟨s0, s1, s2, s3, s4, s5, s6, s7⟩; go_simp; with_reducible rfl)
    refine ta_ HT_ HW_ 5 (some 57) (bv_ 13 63) hHeld ?_ (hy := by rintro w' ⟨s0, s1, s2, s3, s4, s5, s6, s7⟩; go_simp; with_reducible rfl)
    refine join_ (σ := Nat) 2 (bv_ 13 2047) (fun s_ => [(58, .tuple #[.agg #[.int .i64 t175, .int .i64 t176, .int .i64 t177, .bool t178], .bool false]), (12, .pointer (some ⟨s_, 0, none⟩)), (51, .tuple #[.agg #[.int .i64 t175, .int .i64 t176, .int .i64 t177, .bool t178], .bool false]), (59, .agg #[.int .i64 t175, .int .i64 t176, .int .i64 t177, .bool t178]), (60, .bool false)]) (fun s_ w' => (w'.cell? ⟨gb173, 0, none⟩ = some (.int .i64 ((rd_T150 l2 (ji17)).f0.f0)) ∧ w'.cell? ⟨gb173, 1, none⟩ = some (.int .i64 ((rd_T150 l2 (ji17)).f0.f1)) ∧ w'.cell? ⟨gb173, 2, none⟩ = some (.int .i64 ((rd_T150 l2 (ji17)).f0.f2)) ∧ w'.cell? ⟨gb173, 3, none⟩ = some (.bool (!((rd_T150 l2 (ji17)).f1))) ∧ w'.cell? (ad174.add ((x10_2).toNat * 4)) = some (.int .i64 ((rd_T46 l1 x10_2).f0.f0)) ∧ w'.cell? ⟨(ad174.add ((x10_2).toNat * 4)).block, (ad174.add ((x10_2).toNat * 4)).off + 1, none⟩ = some (.int .i64 ((rd_T46 l1 x10_2).f0.f1)) ∧ w'.cell? ⟨(ad174.add ((x10_2).toNat * 4)).block, (ad174.add ((x10_2).toNat * 4)).off + 2, none⟩ = some (.int .i64 ((rd_T46 l1 x10_2).f1.f0)) ∧ w'.cell? ⟨(ad174.add ((x10_2).toNat * 4)).block, (ad174.add ((x10_2).toNat * 4)).off + 3, none⟩ = some (.int .i64 ((rd_T46 l1 x10_2).f1.f1))) ∧ (w'.heap[gb173]? = some (.cells #[.int .i64 ((rd_T150 l2 (ji17)).f0.f0), .int .i64 ((rd_T150 l2 (ji17)).f0.f1), .int .i64 ((rd_T150 l2 (ji17)).f0.f2), .bool (!((rd_T150 l2 (ji17)).f1))] 150 (0, 0))) ∧ (w'.heap[s_]? = some (.cells #[.int .i64 0, .int .i64 0, .int .i64 0, .bool false] 150 (0, 0))) ∧ (w.heap.size ≤ s_) ∧ (w.heap.size ≤ s_) ∧ (gb173 ≠ s_) ∧ (s_ ≠ gb173) ∧ (Below w.heap.size w w')) ?_ ?_
    rotate_left
    ·intro hCont
     refine tw_ HT_ 6 10 (some 58) (some 12) (bv_ 13 127) (bv_ 13 1087) (fun K hK => ?_) (fun K hK => ?_)
     ·skip
      refine gs_ Try.func197 #[.int .i64 a0, .agg #[.int .i64 ((rd_T46 l1 x10_2).f0.f0), .int .i64 ((rd_T46 l1 x10_2).f0.f1), .int .i64 ((rd_T46 l1 x10_2).f1.f0), .int .i64 ((rd_T46 l1 x10_2).f1.f1)], .agg #[.int .i64 ((rd_T150 l2 (ji17)).f0.f0), .int .i64 ((rd_T150 l2 (ji17)).f0.f1), .int .i64 ((rd_T150 l2 (ji17)).f0.f2), .bool (!((rd_T150 l2 (ji17)).f1))]] ?_ (hargs := by (try simp only [List.map_toArray, List.map_cons, List.map_nil]); first | done | (simp only [hji17]; rfl) | rfl | (simp only [List.length_drop, List.length_take]; rfl))
      with_reducible refine (spec_l09Move.calls k2 a0 ((rd_T46 l1 x10_2).f0.f0) ((rd_T46 l1 x10_2).f0.f1) ((rd_T46 l1 x10_2).f1.f0) ((rd_T46 l1 x10_2).f1.f1) ((rd_T150 l2 (ji17)).f0.f0) ((rd_T150 l2 (ji17)).f0.f1) ((rd_T150 l2 (ji17)).f0.f2) (!((rd_T150 l2 (ji17)).f1)) t175 t176 t177 t178 false _ A21.out).mono ?_
      rintro e w57 ⟨rfl, hb⟩
      refine ⟨_, rfl, ?_⟩
      replace BK173 := bb_ BK173 hb
      replace HB := bt_ HB hb
      try clear hb
      refine hK.out _ _ ⟨cz_ BK173 0, cz_ BK173 1, cz_ BK173 2, cz_ BK173 3, (clTr HB.out hw174_0 :), (clTr HB.out hw174_1 :), (clTr HB.out hw174_2 :), (clTr HB.out hw174_3 :)⟩ (fun hHeld => ?_)
      clear hK K
      refine nm_ (some 58) ?_
      refine px_ HT_ 7 51 255 ?_
      refine px_ HT_ 8 59 511 ?_
      refine px_ HT_ 9 60 1023 ?_
      refine on_ HT_ 10 (some 12) (bv_ 13 2047) (fun K hK => ?_)
      refine bz_ 12 #[.int .i64 0, .int .i64 0, .int .i64 0, .bool false] 150 ?_
      intro gb180 hg w58 BK180 hb
      have GW180 := bs_ HB hg
      have NB173_180 := bm_ BK173 hg
      have NB180_173 := bn_ BK173 hg
      replace BK173 := bb_ BK173 hb
      replace HB := bt_ HB hb
      clear hb hg
      refine hK.out _ _ ⟨cz_ BK173 0, cz_ BK173 1, cz_ BK173 2, cz_ BK173 3, (clTr HB.out hw174_0 :), (clTr HB.out hw174_1 :), (clTr HB.out hw174_2 :), (clTr HB.out hw174_3 :)⟩ (fun hHeld => ?_)
      clear hK K
      refine nm_ (some 12) ?_
      exact norm_ (by simp only [putAll, Act.put, lstS, lstZ, lstC]) (hCont (gb180) _ ⟨hHeld, (bl_ BK173).out, (bl_ BK180).out, GW180.out, GW180.out, NB173_180.out, NB180_173.out, (bw_ HB).out⟩)
     skip
     refine bz_ 12 #[.int .i64 0, .int .i64 0, .int .i64 0, .bool false] 150 ?_
     intro gb180 hg w57 BK180 hb
     have GW180 := bs_ HB hg
     have NB173_180 := bm_ BK173 hg
     have NB180_173 := bn_ BK173 hg
     replace BK173 := bb_ BK173 hb
     replace HB := bt_ HB hb
     clear hb hg
     refine hK.out _ _ ⟨cz_ BK173 0, cz_ BK173 1, cz_ BK173 2, cz_ BK173 3, (clTr HB.out hw174_0 :), (clTr HB.out hw174_1 :), (clTr HB.out hw174_2 :), (clTr HB.out hw174_3 :)⟩ (fun hHeld => ?_)
     clear hK K
     refine nm_ (some 12) ?_
     refine on_ HT_ 6 (some 58) (bv_ 13 1151) (fun K hK => ?_)
     refine gs_ Try.func197 #[.int .i64 a0, .agg #[.int .i64 ((rd_T46 l1 x10_2).f0.f0), .int .i64 ((rd_T46 l1 x10_2).f0.f1), .int .i64 ((rd_T46 l1 x10_2).f1.f0), .int .i64 ((rd_T46 l1 x10_2).f1.f1)], .agg #[.int .i64 ((rd_T150 l2 (ji17)).f0.f0), .int .i64 ((rd_T150 l2 (ji17)).f0.f1), .int .i64 ((rd_T150 l2 (ji17)).f0.f2), .bool (!((rd_T150 l2 (ji17)).f1))]] ?_ (hargs := by (try simp only [List.map_toArray, List.map_cons, List.map_nil]); first | done | (simp only [hji17]; rfl) | rfl | (simp only [List.length_drop, List.length_take]; rfl))
     with_reducible refine (spec_l09Move.calls k2 a0 ((rd_T46 l1 x10_2).f0.f0) ((rd_T46 l1 x10_2).f0.f1) ((rd_T46 l1 x10_2).f1.f0) ((rd_T46 l1 x10_2).f1.f1) ((rd_T150 l2 (ji17)).f0.f0) ((rd_T150 l2 (ji17)).f0.f1) ((rd_T150 l2 (ji17)).f0.f2) (!((rd_T150 l2 (ji17)).f1)) t175 t176 t177 t178 false _ A21.out).mono ?_
     rintro e w58 ⟨rfl, hb⟩
     refine ⟨_, rfl, ?_⟩
     replace BK173 := bb_ BK173 hb
     replace BK180 := bb_ BK180 hb
     replace HB := bt_ HB hb
     try clear hb
     refine hK.out _ _ ⟨cz_ BK173 0, cz_ BK173 1, cz_ BK173 2, cz_ BK173 3, (clTr HB.out hw174_0 :), (clTr HB.out hw174_1 :), (clTr HB.out hw174_2 :), (clTr HB.out hw174_3 :)⟩ (fun hHeld => ?_)
     clear hK K
     refine nm_ (some 58) ?_
     refine px_ HT_ 7 51 1279 ?_
     refine px_ HT_ 8 59 1535 ?_
     refine px_ HT_ 9 60 2047 ?_
     exact norm_ (by simp only [putAll, Act.put, lstS, lstZ, lstC]) (hCont (gb180) _ ⟨hHeld, (bl_ BK173).out, (bl_ BK180).out, GW180.out, GW180.out, NB173_180.out, NB180_173.out, (bw_ HB).out⟩)
    rintro gb180 w59 ⟨hS_, h0_, h1_, h2_, h3_, h4_, h5_, h6_⟩
    clear BK173 HB
    have BK173 := Aside0.mk h0_
    have BK180 := Aside0.mk h1_
    have GW180 := Aside0.mk h2_
    have GW180 := Aside0.mk h3_
    have NB173_180 := Aside0.mk h4_
    have NB180_173 := Aside0.mk h5_
    have HB := Aside0.mk h6_
    clear h0_ h1_ h2_ h3_ h4_ h5_ h6_
    have hHeld : w59.cell? ⟨gb173, 0, none⟩ = some (.int .i64 ((rd_T150 l2 (ji17)).f0.f0)) ∧ w59.cell? ⟨gb173, 1, none⟩ = some (.int .i64 ((rd_T150 l2 (ji17)).f0.f1)) ∧ w59.cell? ⟨gb173, 2, none⟩ = some (.int .i64 ((rd_T150 l2 (ji17)).f0.f2)) ∧ w59.cell? ⟨gb173, 3, none⟩ = some (.bool (!((rd_T150 l2 (ji17)).f1))) ∧ w59.cell? (ad174.add ((x10_2).toNat * 4)) = some (.int .i64 ((rd_T46 l1 x10_2).f0.f0)) ∧ w59.cell? ⟨(ad174.add ((x10_2).toNat * 4)).block, (ad174.add ((x10_2).toNat * 4)).off + 1, none⟩ = some (.int .i64 ((rd_T46 l1 x10_2).f0.f1)) ∧ w59.cell? ⟨(ad174.add ((x10_2).toNat * 4)).block, (ad174.add ((x10_2).toNat * 4)).off + 2, none⟩ = some (.int .i64 ((rd_T46 l1 x10_2).f1.f0)) ∧ w59.cell? ⟨(ad174.add ((x10_2).toNat * 4)).block, (ad174.add ((x10_2).toNat * 4)).off + 3, none⟩ = some (.int .i64 ((rd_T46 l1 x10_2).f1.f1)) := hS_
    refine norm_ (a' := ?_) ?_ ?_
    rotate_left
    ·simp only [putAll, Act.put, lstS, lstZ, lstC]
     rfl
    refine on_ HT_ 11 none (bv_ 13 4095) (fun K hK => ?_)
    have hs60 : w59.cell? ⟨gb180, 0, none⟩ = some (.int .i64 0) := (blk_cell BK180.out 0).trans rfl
    have hfs60 := blk_frozen BK180.out 0
    have hns60_0 := NB173_180.out
    have hms60_0 := NB180_173.out
    have hs61 : w59.cell? ⟨gb180, 1, none⟩ = some (.int .i64 0) := (blk_cell BK180.out 1).trans rfl
    have hfs61 := blk_frozen BK180.out 1
    have hns61_0 := NB173_180.out
    have hms61_0 := NB180_173.out
    have hs62 : w59.cell? ⟨gb180, 2, none⟩ = some (.int .i64 0) := (blk_cell BK180.out 2).trans rfl
    have hfs62 := blk_frozen BK180.out 2
    have hns62_0 := NB173_180.out
    have hms62_0 := NB180_173.out
    have hs63 : w59.cell? ⟨gb180, 3, none⟩ = some (.bool false) := (blk_cell BK180.out 3).trans rfl
    have hfs63 := blk_frozen BK180.out 3
    have hns63_0 := NB173_180.out
    have hms63_0 := NB180_173.out
    refine skip_ (w1 := ?_) (by rfl) rfl ?_ ?_
    rotate_left
    ·go_simp
     rfl
    refine hK.out _ _ ⟨(cg_ NB173_180 ((cg_ NB173_180 ((cg_ NB173_180 ((cg_ NB173_180 (hHeld.1)))))))), (cg_ NB173_180 ((cg_ NB173_180 ((cg_ NB173_180 ((cg_ NB173_180 (hHeld.2.1)))))))), (cg_ NB173_180 ((cg_ NB173_180 ((cg_ NB173_180 ((cg_ NB173_180 (hHeld.2.2.1)))))))), (cg_ NB173_180 ((cg_ NB173_180 ((cg_ NB173_180 ((cg_ NB173_180 (hHeld.2.2.2.1)))))))), (cf_ hw174_0 GW180 ((cf_ hw174_0 GW180 ((cf_ hw174_0 GW180 ((cf_ hw174_0 GW180 (hHeld.2.2.2.2.1)))))))), (cf_ hw174_1 GW180 ((cf_ hw174_1 GW180 ((cf_ hw174_1 GW180 ((cf_ hw174_1 GW180 (hHeld.2.2.2.2.2.1)))))))), (cf_ hw174_2 GW180 ((cf_ hw174_2 GW180 ((cf_ hw174_2 GW180 ((cf_ hw174_2 GW180 (hHeld.2.2.2.2.2.2.1)))))))), (cf_ hw174_3 GW180 ((cf_ hw174_3 GW180 ((cf_ hw174_3 GW180 ((cf_ hw174_3 GW180 (hHeld.2.2.2.2.2.2.2))))))))⟩ (fun hHeld => ?_)
    clear hK K
    refine px_ HT_ 12 13 8191 ?_
    refine done_ (done_of HT_.out (by kernel_rfl)) ?_
    try go_wp2
    go_ret2
    exact ⟨by first | rfl | (simp [errW_none, errW_some] <;> rfl) | (simp only [← hji17]; first | rfl | (simp [errW_none, errW_some] <;> rfl)) | (simp [*, errW_none, errW_some] <;> rfl), (bw_ HB).out⟩
   simp only [Option.some.injEq, Prod.mk.injEq] at H
   obtain ⟨rfl, rfl⟩ := H
   go_wp2
   go_ret2
   exact ⟨es_, (bw_ HB).out⟩
end Go.Proofs.Ytgoeelhiffbjlaa.QB
