-- Written by a program of this session out of Lean's own print of the loaded program; Lean checks it.
import Derived.Test.YtojpcbbmbnmchaaQCx4
import Derived.Test.YtojpcbbmbnmchaaQCx78
import Derived.Test.YtojpcbbmbnmchaaQCx79
import Derived.Test.YtojpcbbmbnmchaaQCx81
namespace Go.Proofs.Ytojpcbbmbnmchaa.QC
open Go.RowKit Go.Proofs.YtojpcbbmbnmchaaW.PrintWords Go.Proofs.YtojpcbbmbnmchaaW.PrintLast Go.Proofs.YtojpcbbmbnmchaaW.PrintMore
attribute [local go_sem] isSome_setCell max2_int min2_int max_two min_two max_three min_three max_four min_four   -- for this text's walks alone
set_option linter.unusedVariables false
set_option linter.unusedSimpArgs false

attribute [local go_sem high] eqA30
/-! ### spec_l09Free: function 57 -/
mutual
def spec_l09Free.l0 : Nat → Int → List (S33) → List (S30) → Int → Option (Bool × Int)
 | 0, _, _, _, _ => none
 | k + 1, x0, x1, x2, x8 => if x8 < (x2.length : Int) then (spec_l09Free.l1 k x0 x1 x2 x8 0) else (spec_l09Free.l2 k x0 x1 x2 0)
def spec_l09Free.l1 : Nat → Int → List (S33) → List (S30) → Int → Int → Option (Bool × Int)
 | 0, _, _, _, _, _ => none
 | k + 1, x0, x1, x2, x8, x9 => if x9 < x8 then (if 0 ≤ x8 then (if x8 < (x2.length : Int) then (if 0 ≤ x9 then (if x9 < (x2.length : Int) then ((spec_l09Apart.f k x0 ((rd_T30 x2 x8).f0.f0) ((rd_T30 x2 x8).f0.f1) ((rd_T30 x2 x8).f0.f2) ((rd_T30 x2 x8).f1) ((rd_T30 x2 x9).f0.f0) ((rd_T30 x2 x9).f0.f1) ((rd_T30 x2 x9).f0.f2) ((rd_T30 x2 x9).f1)).bind fun t623 => (if t623 = true then (spec_l09Free.l1 k x0 x1 x2 x8 (wrap64 (x9 + 1))) else (some (false, 0)))) else (none)) else (none)) else (none)) else (none)) else (spec_l09Free.l0 k x0 x1 x2 (wrap64 (x8 + 1)))
def spec_l09Free.l2 : Nat → Int → List (S33) → List (S30) → Int → Option (Bool × Int)
 | 0, _, _, _, _ => none
 | k + 1, x0, x1, x2, x10 => if x10 < (x1.length : Int) then (if 0 ≤ (wrap64 (2 * x10)) then (if (wrap64 (2 * x10)) < (x2.length : Int) then (if 0 ≤ x10 then ((spec_l09Move.f k x0 ((rd_T33 x1 x10).f0.f0) ((rd_T33 x1 x10).f0.f1) ((rd_T33 x1 x10).f1.f0) ((rd_T33 x1 x10).f1.f1) ((rd_T30 x2 (wrap64 (2 * x10))).f0.f0) ((rd_T30 x2 (wrap64 (2 * x10))).f0.f1) ((rd_T30 x2 (wrap64 (2 * x10))).f0.f2) (!((rd_T30 x2 (wrap64 (2 * x10))).f1))).bind fun bt627 => (if bt627.2.2.2.2 = true then (if 0 ≤ (wrap64 ((wrap64 (2 * x10)) + 1)) then (if (wrap64 ((wrap64 (2 * x10)) + 1)) < (x2.length : Int) then (if ((!(bt627.1 == ((rd_T30 x2 (wrap64 ((wrap64 (2 * x10)) + 1))).f0.f0)) || (!(bt627.2.1 == ((rd_T30 x2 (wrap64 ((wrap64 (2 * x10)) + 1))).f0.f1)) || (!(bt627.2.2.1 == ((rd_T30 x2 (wrap64 ((wrap64 (2 * x10)) + 1))).f0.f2))))) || (!(bt627.2.2.2.1 == ((rd_T30 x2 (wrap64 ((wrap64 (2 * x10)) + 1))).f1)))) = true then (some (false, 0)) else (spec_l09Free.l2 k x0 x1 x2 (wrap64 (x10 + 1)))) else (none)) else (none)) else (some (false, 3)))) else (none)) else (none)) else (none)) else (some (true, 0))
end
def spec_l09Free.f (k : Nat) (a0 : Int) (l1 : List (S33)) (l2 : List (S30)) : Option (Bool × Int) := spec_l09Free.l0 k a0 l1 l2 0
def spec_l09Free.T7 : Bool × List (List Nat × List Nat) := (true, [([], []), ([], []), ([], []), ([1, 2], [1, 2]), ([3], [3]), ([], []), ([], []), ([5, 6], [5, 6]), ([7], [7]), ([0, 4, 8], [0, 4, 8]), ([9], [9])])
def spec_l09Free.B7 : List Nat := [0, 0, 0, 6, 14, 0, 0, 96, 224, 511, 1023]
theorem spec_l09Free.tab7 : rtab .any (opsOf Try.f57 7) = spec_l09Free.T7 := by kernel_rfl
theorem spec_l09Free.bits7 : waitsOk spec_l09Free.T7.2 spec_l09Free.B7 = true := by kernel_rfl
def spec_l09Free.T14 : Bool × List (List Nat × List Nat) := (true, [([], []), ([], []), ([], []), ([1, 2], [1, 2]), ([3], [3]), ([], []), ([0, 4, 5], [0, 4, 5]), ([6], [6]), ([7], [7]), ([7], [7]), ([], []), ([10, 8, 6, 0, 1, 2, 3, 4, 5, 6, 7, 8, 10], [8, 10]), ([9, 11, 0, 1, 2, 3, 4, 5, 6, 7, 8, 9, 10, 11], [9])])
def spec_l09Free.B14 : List Nat := [0, 0, 0, 6, 14, 0, 63, 127, 255, 255, 0, 1535, 4095]
theorem spec_l09Free.tab14 : rtab .any (opsOf Try.f57 14) = spec_l09Free.T14 := by kernel_rfl
theorem spec_l09Free.bits14 : waitsOk spec_l09Free.T14.2 spec_l09Free.B14 = true := by kernel_rfl
def spec_l09Free.T17 : Bool × List (List Nat × List Nat) := (true, [([], []), ([], []), ([], []), ([2], [2]), ([3], [3]), ([1, 4], [1, 4]), ([5], [5]), ([0, 6], [0, 6])])
def spec_l09Free.B17 : List Nat := [0, 0, 0, 4, 12, 30, 62, 127]
theorem spec_l09Free.tab17 : rtab .any (opsOf Try.f57 17) = spec_l09Free.T17 := by kernel_rfl
theorem spec_l09Free.bits17 : waitsOk spec_l09Free.T17.2 spec_l09Free.B17 = true := by kernel_rfl
set_option maxHeartbeats 8000000 in
set_option maxRecDepth 100000 in
theorem spec_l09Free.calls (k : Nat) (a0 : Int) (A1 : Option Addr) (c1 : Nat) (l1 : List (S33)) (A2 : Option Addr) (c2 : Nat) (l2 : List (S30)) (r1 : Bool) (r2 : Int) (w : World) (hr1 : Kd.C k33 w A1 l1.length l1) (hc1 : l1.length ≤ c1) (hr2 : Kd.C k30 w A2 l2.length l2) (hc2 : l2.length ≤ c2) (h : spec_l09Free.f k a0 l1 l2 = some (r1, r2)) :
  Calls Try.prog 57 #[.int .i64 a0, .slice A1 l1.length c1, .slice A2 l2.length c2] w fun e w' => e = .returned (.tuple #[.bool r1, .int .i64 r2]) ∧ Below w.heap.size w w' := by
 have hu30 := Try.underlying30
 have hu33 := Try.underlying33
 have HR1 := Aside0.mk hr1
 have HC1 := Aside0.mk hc1
 clear hr1 hc1
 have HR2 := Aside0.mk hr2
 have HC2 := Aside0.mk hc2
 clear hr2 hc2
 have HB := Aside0.mk (Below.refl w.heap.size w)
 have H : (spec_l09Free.l0 k a0 l1 l2 0) = some (r1, r2) := h
 clear h
 have H' := Aside0.mk H
 clear H
 go_enter Try.func57, Try.ntmps57
 go_wp2
 go_loopg [8] k (fun kq v8 w' => ∃ (x8_1 : Int), v8 = .int .i64 x8_1 ∧ Aside0 (spec_l09Free.l0 kq a0 l1 l2 x8_1 = some (r1, r2)) ∧ Aside0 (kq ≤ k) ∧ Aside0 (Below w.heap.size w w'))
 case atStart => exact ⟨(0), (by first | rfl | (simp; done) | (simp [*]; done) | (simp [wrap64]; done)), H', ⟨Nat.le_refl _⟩, bw_ HB⟩
 case round =>
  clear H'
  try clear c1
  try clear c2
  try clear p2
  obtain ⟨x8_1, rfl, HA, HK1, HB⟩ := hrel
  cases gk with
  | zero => exact absurd HA.out (by simp [spec_l09Free.l0])
  | succ k1 =>
   have H := HA.out
   clear HA
   simp only [spec_l09Free.l0] at H
   by_cases c4 : x8_1 < (l2.length : Int)
   ·rw [if_pos c4] at H
    have c4b0 : decide (x8_1 < (l2.length : Int)) = true := decide_eq_true c4
    clear c4
    have H' := Aside0.mk H
    clear H
    go_wp2
    go_loopg [9] k1 (fun kq v9 w' => ∃ (x9_2 : Int), v9 = .int .i64 x9_2 ∧ Aside0 (spec_l09Free.l1 kq a0 l1 l2 x8_1 x9_2 = some (r1, r2)) ∧ Aside0 (kq ≤ k1) ∧ Aside0 (Below w.heap.size w w'))
    case atStart => exact ⟨(0), (by first | rfl | (simp; done) | (simp [*]; done) | (simp [wrap64]; done)), H', ⟨Nat.le_refl _⟩, bw_ HB⟩
    case round =>
     clear H'
     try clear c1
     try clear c2
     try clear p2
     try clear c4
     try clear c4b0
     try clear p2
     obtain ⟨x9_2, rfl, HA, HK2, HB⟩ := hrel
     cases gk with
     | zero => exact absurd HA.out (by simp [spec_l09Free.l1])
     | succ k2 =>
      have H := HA.out
      clear HA
      simp only [spec_l09Free.l1] at H
      by_cases c5 : x9_2 < x8_1
      ·rw [if_pos c5] at H
       have c5b0 : decide (x9_2 < x8_1) = true := decide_eq_true c5
       clear c5
       by_cases c6 : 0 ≤ x8_1
       ·rw [if_pos c6] at H
        have c6b0 : decide (0 ≤ x8_1) = true := decide_eq_true c6
        clear c6
        by_cases c7 : x8_1 < (l2.length : Int)
        ·rw [if_pos c7] at H
         have c7b0 : decide (x8_1 < (l2.length : Int)) = true := decide_eq_true c7
         clear c7
         by_cases c8 : 0 ≤ x9_2
         ·rw [if_pos c8] at H
          have c8b0 : decide (0 ≤ x9_2) = true := decide_eq_true c8
          clear c8
          by_cases c9 : x9_2 < (l2.length : Int)
          ·rw [if_pos c9] at H
           have c9b0 : decide (x9_2 < (l2.length : Int)) = true := decide_eq_true c9
           clear c9
           replace H := Option.bind_eq_some_iff.mp H
           obtain ⟨t623, A100, H⟩ := H
           have A10 := Aside0.mk A100
           clear A100
           by_cases c11 : t623 = true
           ·subst c11
            have H1 : (spec_l09Free.l1 k2 a0 l1 l2 x8_1 (wrap64 (x9_2 + 1))) = some (r1, r2) := by rw [if_pos rfl] at H; exact H
            clear H
            have H := H1
            clear H1
            have H' := Aside0.mk H
            clear H
            try go_wp2
            replace HB := Aside0.mk (below_drew1 HB.out)
            have p621 : 0 ≤ (x8_1 : Int) := of_decide_eq_true (by first | (with_reducible assumption) | assumption)
            have q621 : x8_1 < (l2.length : Int) := of_decide_eq_true (by first | (with_reducible assumption) | assumption)
            obtain ⟨ad621, e621, hx621_0, hx621_1, hx621_2, hx621_3⟩ := at_T30 HR2.out x8_1 p621 q621
            have hw621_3 := hx621_3
            have hw621_2 := hx621_2
            have hw621_1 := hx621_1
            have hw621_0 := hx621_0
            cases e621
            replace hx621_0 := clTr HB.out hx621_0
            replace hx621_1 := clTr HB.out hx621_1
            replace hx621_2 := clTr HB.out hx621_2
            replace hx621_3 := clTr HB.out hx621_3
            replace p621 := eq_true p621
            replace q621 := eq_true q621
            have p622 : 0 ≤ (x9_2 : Int) := of_decide_eq_true (by first | (with_reducible assumption) | assumption)
            have q622 : x9_2 < (l2.length : Int) := of_decide_eq_true (by first | (with_reducible assumption) | assumption)
            obtain ⟨ad622, e622, hx622_0, hx622_1, hx622_2, hx622_3⟩ := at_T30 HR2.out x9_2 p622 q622
            have hw622_3 := hx622_3
            have hw622_2 := hx622_2
            have hw622_1 := hx622_1
            have hw622_0 := hx622_0
            obtain rfl : ad621 = ad622 := (by injection e622)
            replace hx622_0 := clTr HB.out hx622_0
            replace hx622_1 := clTr HB.out hx622_1
            replace hx622_2 := clTr HB.out hx622_2
            replace hx622_3 := clTr HB.out hx622_3
            replace p622 := eq_true p622
            replace q622 := eq_true q622
            refine start_ (n := 11) (S := fun w' => w'.cell? (ad621.add ((x8_1).toNat * 4)) = some (.int .i64 ((rd_T30 l2 x8_1).f0.f0)) ∧ w'.cell? ⟨(ad621.add ((x8_1).toNat * 4)).block, (ad621.add ((x8_1).toNat * 4)).off + 1, none⟩ = some (.int .i64 ((rd_T30 l2 x8_1).f0.f1)) ∧ w'.cell? ⟨(ad621.add ((x8_1).toNat * 4)).block, (ad621.add ((x8_1).toNat * 4)).off + 2, none⟩ = some (.int .i64 ((rd_T30 l2 x8_1).f0.f2)) ∧ w'.cell? ⟨(ad621.add ((x8_1).toNat * 4)).block, (ad621.add ((x8_1).toNat * 4)).off + 3, none⟩ = some (.bool ((rd_T30 l2 x8_1).f1)) ∧ w'.cell? (ad621.add ((x9_2).toNat * 4)) = some (.int .i64 ((rd_T30 l2 x9_2).f0.f0)) ∧ w'.cell? ⟨(ad621.add ((x9_2).toNat * 4)).block, (ad621.add ((x9_2).toNat * 4)).off + 1, none⟩ = some (.int .i64 ((rd_T30 l2 x9_2).f0.f1)) ∧ w'.cell? ⟨(ad621.add ((x9_2).toNat * 4)).block, (ad621.add ((x9_2).toNat * 4)).off + 2, none⟩ = some (.int .i64 ((rd_T30 l2 x9_2).f0.f2)) ∧ w'.cell? ⟨(ad621.add ((x9_2).toNat * 4)).block, (ad621.add ((x9_2).toNat * 4)).off + 3, none⟩ = some (.bool ((rd_T30 l2 x9_2).f1))) (ds := []) #[false, false, false, false, false, false, false, false, false, false, false] (by kernel_rfl) rfl rfl ⟨(clTr HB.out hw621_0), (clTr HB.out hw621_1), (clTr HB.out hw621_2), (clTr HB.out hw621_3), (clTr HB.out hw622_0), (clTr HB.out hw622_1), (clTr HB.out hw622_2), (clTr HB.out hw622_3)⟩ (fun hHeld => ?_); refine with_tabW spec_l09Free.tab7 spec_l09Free.bits7 (fun HT_ HW_ => ?_)
            generalize wr.drew = w12 at HB hx621_0 hx621_1 hx621_2 hx621_3 hx622_0 hx622_1 hx622_2 hx622_3 hHeld ⊢
            refine pu_ HT_ 0 (some 25) #[true, false, false, false, false, false, false, false, false, false, false] ?_
            refine pu_ HT_ 1 (some 26) #[true, true, false, false, false, false, false, false, false, false, false] ?_
            refine pu_ HT_ 2 (some 27) #[true, true, true, false, false, false, false, false, false, false, false] ?_
            refine pu_ HT_ 3 (some 28) #[true, true, true, true, false, false, false, false, false, false, false] ?_
            refine pu_ HT_ 5 (some 30) #[true, true, true, true, false, true, false, false, false, false, false] ?_
            refine pu_ HT_ 6 (some 31) #[true, true, true, true, false, true, true, false, false, false, false] ?_
            refine pu_ HT_ 7 (some 32) #[true, true, true, true, false, true, true, true, false, false, false] ?_
            refine ta_ HT_ HW_ 4 (some 29) #[true, true, true, true, true, true, true, true, false, false, false] hHeld ?_ (hy := by rintro w' ⟨s0, s1, s2, s3, s4, s5, s6, s7⟩; go_simp; with_reducible rfl)
            refine ta_ HT_ HW_ 8 (some 33) #[true, true, true, true, true, true, true, true, true, false, false] hHeld ?_ (hy := by rintro w' ⟨s0, s1, s2, s3, s4, s5, s6, s7⟩; go_simp; with_reducible rfl)
            refine one_ (i := 9) (N := some 34) #[true, true, true, true, true, true, true, true, true, true, false] rfl rfl (one_of HT_.out (by kernel_rfl)) (by decide) (fun K hK => ?_)
            refine goes_ Try.func92 (by kernel_rfl) rfl #[.int .i64 a0, .agg #[.int .i64 ((rd_T30 l2 x8_1).f0.f0), .int .i64 ((rd_T30 l2 x8_1).f0.f1), .int .i64 ((rd_T30 l2 x8_1).f0.f2), .bool ((rd_T30 l2 x8_1).f1)], .agg #[.int .i64 ((rd_T30 l2 x9_2).f0.f0), .int .i64 ((rd_T30 l2 x9_2).f0.f1), .int .i64 ((rd_T30 l2 x9_2).f0.f2), .bool ((rd_T30 l2 x9_2).f1)]] (by rfl) rfl rfl (by (try simp only [List.map_toArray, List.map_cons, List.map_nil]); first | done | rfl | (simp only [List.length_drop, List.length_take]; rfl)) ?_
            with_reducible refine (spec_l09Apart.calls k2 a0 ((rd_T30 l2 x8_1).f0.f0) ((rd_T30 l2 x8_1).f0.f1) ((rd_T30 l2 x8_1).f0.f2) ((rd_T30 l2 x8_1).f1) ((rd_T30 l2 x9_2).f0.f0) ((rd_T30 l2 x9_2).f0.f1) ((rd_T30 l2 x9_2).f0.f2) ((rd_T30 l2 x9_2).f1) true _ A10.out).mono ?_
            rintro e w13 ⟨rfl, hb⟩
            refine ⟨_, rfl, ?_⟩
            replace HB := bt_ HB hb
            (try clear hb)
            (try clear hb2)
            (try clear hk)
            (try clear hi)
            refine hK.out _ _ ⟨(clTr HB.out hw621_0), (clTr HB.out hw621_1), (clTr HB.out hw621_2), (clTr HB.out hw621_3), (clTr HB.out hw622_0), (clTr HB.out hw622_1), (clTr HB.out hw622_2), (clTr HB.out hw622_3)⟩ (fun hHeld => ?_)
            clear hK K
            refine norm_ (a' := ?_) ?_ ?_
            rotate_left
            ·show Act.put _ (some 34) _ = _
             simp only [Act.put, lstS, lstZ, lstC, i64_w, i32_w]
             rfl
            refine pu_ HT_ 10 (some 35) #[true, true, true, true, true, true, true, true, true, true, true] ?_
            refine done_ (done_of HT_.out (by kernel_rfl)) ?_
            try go_wp2
            go_roundg k2
            case measure => have := HK1.out; have := HK2.out; omega
            case rel => exact ⟨(wrap64 (x9_2 + 1)), (by first | rfl | (simp; done) | (simp [*]; done) | (simp [wrap64]; done)), H', ⟨by have := HK1.out; have := HK2.out; omega⟩, bw_ HB⟩
           ·replace c11 := Bool.eq_false_iff.mpr c11
            subst c11
            have H1 : (some (false, 0)) = some (r1, r2) := by rw [if_neg (show ¬ (false = true) by decide)] at H; exact H
            clear H
            have H := H1
            clear H1
            simp only [Option.some.injEq, Prod.mk.injEq] at H
            obtain ⟨rfl, rfl⟩ := H
            try go_wp2
            replace HB := Aside0.mk (below_drew1 HB.out)
            have p621 : 0 ≤ (x8_1 : Int) := of_decide_eq_true (by first | (with_reducible assumption) | assumption)
            have q621 : x8_1 < (l2.length : Int) := of_decide_eq_true (by first | (with_reducible assumption) | assumption)
            obtain ⟨ad621, e621, hx621_0, hx621_1, hx621_2, hx621_3⟩ := at_T30 HR2.out x8_1 p621 q621
            have hw621_3 := hx621_3
            have hw621_2 := hx621_2
            have hw621_1 := hx621_1
            have hw621_0 := hx621_0
            cases e621
            replace hx621_0 := clTr HB.out hx621_0
            replace hx621_1 := clTr HB.out hx621_1
            replace hx621_2 := clTr HB.out hx621_2
            replace hx621_3 := clTr HB.out hx621_3
            replace p621 := eq_true p621
            replace q621 := eq_true q621
            have p622 : 0 ≤ (x9_2 : Int) := of_decide_eq_true (by first | (with_reducible assumption) | assumption)
            have q622 : x9_2 < (l2.length : Int) := of_decide_eq_true (by first | (with_reducible assumption) | assumption)
            obtain ⟨ad622, e622, hx622_0, hx622_1, hx622_2, hx622_3⟩ := at_T30 HR2.out x9_2 p622 q622
            have hw622_3 := hx622_3
            have hw622_2 := hx622_2
            have hw622_1 := hx622_1
            have hw622_0 := hx622_0
            obtain rfl : ad621 = ad622 := (by injection e622)
            replace hx622_0 := clTr HB.out hx622_0
            replace hx622_1 := clTr HB.out hx622_1
            replace hx622_2 := clTr HB.out hx622_2
            replace hx622_3 := clTr HB.out hx622_3
            replace p622 := eq_true p622
            replace q622 := eq_true q622
            refine start_ (n := 11) (S := fun w' => w'.cell? (ad621.add ((x8_1).toNat * 4)) = some (.int .i64 ((rd_T30 l2 x8_1).f0.f0)) ∧ w'.cell? ⟨(ad621.add ((x8_1).toNat * 4)).block, (ad621.add ((x8_1).toNat * 4)).off + 1, none⟩ = some (.int .i64 ((rd_T30 l2 x8_1).f0.f1)) ∧ w'.cell? ⟨(ad621.add ((x8_1).toNat * 4)).block, (ad621.add ((x8_1).toNat * 4)).off + 2, none⟩ = some (.int .i64 ((rd_T30 l2 x8_1).f0.f2)) ∧ w'.cell? ⟨(ad621.add ((x8_1).toNat * 4)).block, (ad621.add ((x8_1).toNat * 4)).off + 3, none⟩ = some (.bool ((rd_T30 l2 x8_1).f1)) ∧ w'.cell? (ad621.add ((x9_2).toNat * 4)) = some (.int .i64 ((rd_T30 l2 x9_2).f0.f0)) ∧ w'.cell? ⟨(ad621.add ((x9_2).toNat * 4)).block, (ad621.add ((x9_2).toNat * 4)).off + 1, none⟩ = some (.int .i64 ((rd_T30 l2 x9_2).f0.f1)) ∧ w'.cell? ⟨(ad621.add ((x9_2).toNat * 4)).block, (ad621.add ((x9_2).toNat * 4)).off + 2, none⟩ = some (.int .i64 ((rd_T30 l2 x9_2).f0.f2)) ∧ w'.cell? ⟨(ad621.add ((x9_2).toNat * 4)).block, (ad621.add ((x9_2).toNat * 4)).off + 3, none⟩ = some (.bool ((rd_T30 l2 x9_2).f1))) (ds := []) #[false, false, false, false, false, false, false, false, false, false, false] (by kernel_rfl) rfl rfl ⟨(clTr HB.out hw621_0), (clTr HB.out hw621_1), (clTr HB.out hw621_2), (clTr HB.out hw621_3), (clTr HB.out hw622_0), (clTr HB.out hw622_1), (clTr HB.out hw622_2), (clTr HB.out hw622_3)⟩ (fun hHeld => ?_); refine with_tabW spec_l09Free.tab7 spec_l09Free.bits7 (fun HT_ HW_ => ?_)
            generalize wr.drew = w14 at HB hx621_0 hx621_1 hx621_2 hx621_3 hx622_0 hx622_1 hx622_2 hx622_3 hHeld ⊢
            refine pu_ HT_ 0 (some 25) #[true, false, false, false, false, false, false, false, false, false, false] ?_
            refine pu_ HT_ 1 (some 26) #[true, true, false, false, false, false, false, false, false, false, false] ?_
            refine pu_ HT_ 2 (some 27) #[true, true, true, false, false, false, false, false, false, false, false] ?_
            refine pu_ HT_ 3 (some 28) #[true, true, true, true, false, false, false, false, false, false, false] ?_
            refine pu_ HT_ 5 (some 30) #[true, true, true, true, false, true, false, false, false, false, false] ?_
            refine pu_ HT_ 6 (some 31) #[true, true, true, true, false, true, true, false, false, false, false] ?_
            refine pu_ HT_ 7 (some 32) #[true, true, true, true, false, true, true, true, false, false, false] ?_
            refine ta_ HT_ HW_ 4 (some 29) #[true, true, true, true, true, true, true, true, false, false, false] hHeld ?_ (hy := by rintro w' ⟨s0, s1, s2, s3, s4, s5, s6, s7⟩; go_simp; with_reducible rfl)
            refine ta_ HT_ HW_ 8 (some 33) #[true, true, true, true, true, true, true, true, true, false, false] hHeld ?_ (hy := by rintro w' ⟨s0, s1, s2, s3, s4, s5, s6, s7⟩; go_simp; with_reducible rfl)
            refine one_ (i := 9) (N := some 34) #[true, true, true, true, true, true, true, true, true, true, false] rfl rfl (one_of HT_.out (by kernel_rfl)) (by decide) (fun K hK => ?_)
            refine goes_ Try.func92 (by kernel_rfl) rfl #[.int .i64 a0, .agg #[.int .i64 ((rd_T30 l2 x8_1).f0.f0), .int .i64 ((rd_T30 l2 x8_1).f0.f1), .int .i64 ((rd_T30 l2 x8_1).f0.f2), .bool ((rd_T30 l2 x8_1).f1)], .agg #[.int .i64 ((rd_T30 l2 x9_2).f0.f0), .int .i64 ((rd_T30 l2 x9_2).f0.f1), .int .i64 ((rd_T30 l2 x9_2).f0.f2), .bool ((rd_T30 l2 x9_2).f1)]] (by rfl) rfl rfl (by (try simp only [List.map_toArray, List.map_cons, List.map_nil]); first | done | rfl | (simp only [List.length_drop, List.length_take]; rfl)) ?_
            with_reducible refine (spec_l09Apart.calls k2 a0 ((rd_T30 l2 x8_1).f0.f0) ((rd_T30 l2 x8_1).f0.f1) ((rd_T30 l2 x8_1).f0.f2) ((rd_T30 l2 x8_1).f1) ((rd_T30 l2 x9_2).f0.f0) ((rd_T30 l2 x9_2).f0.f1) ((rd_T30 l2 x9_2).f0.f2) ((rd_T30 l2 x9_2).f1) false _ A10.out).mono ?_
            rintro e w15 ⟨rfl, hb⟩
            refine ⟨_, rfl, ?_⟩
            replace HB := bt_ HB hb
            (try clear hb)
            (try clear hb2)
            (try clear hk)
            (try clear hi)
            refine hK.out _ _ ⟨(clTr HB.out hw621_0), (clTr HB.out hw621_1), (clTr HB.out hw621_2), (clTr HB.out hw621_3), (clTr HB.out hw622_0), (clTr HB.out hw622_1), (clTr HB.out hw622_2), (clTr HB.out hw622_3)⟩ (fun hHeld => ?_)
            clear hK K
            refine norm_ (a' := ?_) ?_ ?_
            rotate_left
            ·show Act.put _ (some 34) _ = _
             simp only [Act.put, lstS, lstZ, lstC, i64_w, i32_w]
             rfl
            refine pu_ HT_ 10 (some 35) #[true, true, true, true, true, true, true, true, true, true, true] ?_
            refine done_ (done_of HT_.out (by kernel_rfl)) ?_
            try go_wp2
            go_ret2
            exact ⟨by first | rfl | (simp [errW_none, errW_some] <;> rfl) | (simp [*, errW_none, errW_some] <;> rfl), by repeat (first | (with_reducible first | exact HB.out | apply below_alloc | apply pw_below_drewN | apply below_drew1) | exact HB.out)⟩
          ·rw [if_neg c9] at H
           exact absurd H (by simp)
         ·rw [if_neg c8] at H
          exact absurd H (by simp)
        ·rw [if_neg c7] at H
         exact absurd H (by simp)
       ·rw [if_neg c6] at H
        exact absurd H (by simp)
      ·rw [if_neg c5] at H
       have c5b0 : decide (x9_2 < x8_1) = false := decide_eq_false c5
       clear c5
       have H' := Aside0.mk H
       clear H
       go_wp2
       go_roundg k2
       case measure => have := HK1.out; have := HK2.out; omega
       case rel => exact ⟨(wrap64 (x8_1 + 1)), (by first | rfl | (simp; done) | (simp [*]; done) | (simp [wrap64]; done)), H', ⟨by have := HK1.out; have := HK2.out; omega⟩, bw_ HB⟩
   ·rw [if_neg c4] at H
    have c4b0 : decide (x8_1 < (l2.length : Int)) = false := decide_eq_false c4
    clear c4
    have H' := Aside0.mk H
    clear H
    go_wp2
    go_loopg [10] k1 (fun kq v10 w' => ∃ (x10_2 : Int), v10 = .int .i64 x10_2 ∧ Aside0 (spec_l09Free.l2 kq a0 l1 l2 x10_2 = some (r1, r2)) ∧ Aside0 (kq ≤ k1) ∧ Aside0 (Below w.heap.size w w'))
    case atStart => exact ⟨(0), (by first | rfl | (simp; done) | (simp [*]; done) | (simp [wrap64]; done)), H', ⟨Nat.le_refl _⟩, bw_ HB⟩
    case round =>
     clear H'
     try clear c1
     try clear c2
     try clear p2
     try clear c4
     try clear c4b0
     try clear c5
     try clear c5b0
     try clear c6
     try clear c6b0
     try clear p6
     try clear q6
     try clear hx6
     try clear c7
     try clear c7b0
     try clear c8
     try clear c8b0
     try clear c9
     try clear c9b0
     try clear c11
     try clear hx621_0
     try clear hx621_1
     try clear hx621_2
     try clear hx621_3
     try clear hx622_0
     try clear hx622_1
     try clear hx622_2
     try clear hx622_3
     try clear p2
     try clear p621
     try clear p622
     try clear q621
     try clear q622
     obtain ⟨x10_2, rfl, HA, HK2, HB⟩ := hrel
     cases gk with
     | zero => exact absurd HA.out (by simp [spec_l09Free.l2])
     | succ k2 =>
      have H := HA.out
      clear HA
      simp only [spec_l09Free.l2] at H
      by_cases c16 : x10_2 < (l1.length : Int)
      ·rw [if_pos c16] at H
       have c16b0 : decide (x10_2 < (l1.length : Int)) = true := decide_eq_true c16
       clear c16
       obtain ⟨ji17, hji17⟩ : ∃ j_ : Int, (wrap64 (2 * x10_2)) = j_ := ⟨_, rfl⟩
       replace H : (if 0 ≤ (ji17) then (if (ji17) < (l2.length : Int) then (if 0 ≤ x10_2 then ((spec_l09Move.f k2 a0 ((rd_T33 l1 x10_2).f0.f0) ((rd_T33 l1 x10_2).f0.f1) ((rd_T33 l1 x10_2).f1.f0) ((rd_T33 l1 x10_2).f1.f1) ((rd_T30 l2 (ji17)).f0.f0) ((rd_T30 l2 (ji17)).f0.f1) ((rd_T30 l2 (ji17)).f0.f2) (!((rd_T30 l2 (ji17)).f1))).bind fun bt627 => (if bt627.2.2.2.2 = true then (if 0 ≤ (wrap64 ((ji17) + 1)) then (if (wrap64 ((ji17) + 1)) < (l2.length : Int) then (if ((!(bt627.1 == ((rd_T30 l2 (wrap64 ((ji17) + 1))).f0.f0)) || (!(bt627.2.1 == ((rd_T30 l2 (wrap64 ((ji17) + 1))).f0.f1)) || (!(bt627.2.2.1 == ((rd_T30 l2 (wrap64 ((ji17) + 1))).f0.f2))))) || (!(bt627.2.2.2.1 == ((rd_T30 l2 (wrap64 ((ji17) + 1))).f1)))) = true then (some (false, 0)) else (spec_l09Free.l2 k2 a0 l1 l2 (wrap64 (x10_2 + 1)))) else (none)) else (none)) else (some (false, 3)))) else (none)) else (none)) else (none)) = some (r1, r2) := by first | (rw [hji17] at H; exact H) | (simp only [hji17] at H ⊢; exact H)
       have hji17w : (IntKind.i64.wrap (2 * x10_2)) = ji17 := (i64_w _).trans hji17
       by_cases c18 : 0 ≤ (ji17)
       ·rw [if_pos c18] at H
        have c18b0 : decide (0 ≤ (ji17)) = true := decide_eq_true c18
        clear c18
        by_cases c19 : (ji17) < (l2.length : Int)
        ·rw [if_pos c19] at H
         have c19b0 : decide ((ji17) < (l2.length : Int)) = true := decide_eq_true c19
         clear c19
         by_cases c20 : 0 ≤ x10_2
         ·rw [if_pos c20] at H
          have c20b0 : decide (0 ≤ x10_2) = true := decide_eq_true c20
          clear c20
          replace H := Option.bind_eq_some_iff.mp H
          obtain ⟨⟨t627, t628, t629, t630, t631⟩, A210, H⟩ := H
          have A21 := Aside0.mk A210
          clear A210
          by_cases c22 : t631 = true
          ·subst c22
           have H1 : (if 0 ≤ (wrap64 ((ji17) + 1)) then (if (wrap64 ((ji17) + 1)) < (l2.length : Int) then (if ((!(t627 == ((rd_T30 l2 (wrap64 ((ji17) + 1))).f0.f0)) || (!(t628 == ((rd_T30 l2 (wrap64 ((ji17) + 1))).f0.f1)) || (!(t629 == ((rd_T30 l2 (wrap64 ((ji17) + 1))).f0.f2))))) || (!(t630 == ((rd_T30 l2 (wrap64 ((ji17) + 1))).f1)))) = true then (some (false, 0)) else (spec_l09Free.l2 k2 a0 l1 l2 (wrap64 (x10_2 + 1)))) else (none)) else (none)) = some (r1, r2) := by rw [if_pos rfl] at H; exact H
           clear H
           have H := H1
           clear H1
           obtain ⟨ji23, hji23⟩ : ∃ j_ : Int, (wrap64 ((ji17) + 1)) = j_ := ⟨_, rfl⟩
           replace H : (if 0 ≤ (ji23) then (if (ji23) < (l2.length : Int) then (if ((!(t627 == ((rd_T30 l2 (ji23)).f0.f0)) || (!(t628 == ((rd_T30 l2 (ji23)).f0.f1)) || (!(t629 == ((rd_T30 l2 (ji23)).f0.f2))))) || (!(t630 == ((rd_T30 l2 (ji23)).f1)))) = true then (some (false, 0)) else (spec_l09Free.l2 k2 a0 l1 l2 (wrap64 (x10_2 + 1)))) else (none)) else (none)) = some (r1, r2) := by first | (rw [hji23] at H; exact H) | (simp only [hji23] at H ⊢; exact H)
           (try rw [hji23] at A21)
           have hji23w : (IntKind.i64.wrap ((ji17) + 1)) = ji23 := (i64_w _).trans hji23
           by_cases c24 : 0 ≤ (ji23)
           ·rw [if_pos c24] at H
            have c24b0 : decide (0 ≤ (ji23)) = true := decide_eq_true c24
            clear c24
            by_cases c25 : (ji23) < (l2.length : Int)
            ·rw [if_pos c25] at H
             have c25b0 : decide ((ji23) < (l2.length : Int)) = true := decide_eq_true c25
             clear c25
             by_cases c26 : ((!(t627 == ((rd_T30 l2 (ji23)).f0.f0)) || (!(t628 == ((rd_T30 l2 (ji23)).f0.f1)) || (!(t629 == ((rd_T30 l2 (ji23)).f0.f2))))) || (!(t630 == ((rd_T30 l2 (ji23)).f1)))) = true
             ·rw [if_pos c26] at H
              have c26b0 : ((!(t627 == ((rd_T30 l2 (ji23)).f0.f0)) || (!(t628 == ((rd_T30 l2 (ji23)).f0.f1)) || (!(t629 == ((rd_T30 l2 (ji23)).f0.f2))))) || (!(t630 == ((rd_T30 l2 (ji23)).f1)))) = true := c26
              clear c26
              simp only [Option.some.injEq, Prod.mk.injEq] at H
              obtain ⟨rfl, rfl⟩ := H
              have p624 : 0 ≤ ((ji17) : Int) := of_decide_eq_true (by first | (with_reducible assumption) | assumption)
              have q624 : (ji17) < (l2.length : Int) := of_decide_eq_true (by first | (with_reducible assumption) | assumption)
              obtain ⟨ad624, e624, hx624_0, hx624_1, hx624_2, hx624_3⟩ := at_T30 HR2.out (ji17) p624 q624
              cases e624
              replace hx624_0 := clTr HB.out hx624_0
              replace hx624_1 := clTr HB.out hx624_1
              replace hx624_2 := clTr HB.out hx624_2
              replace hx624_3 := clTr HB.out hx624_3
              replace p624 := eq_true p624
              replace q624 := eq_true q624
              try go_wp2_with (first | ((with_reducible refine gate_dst (N := 11) rfl ?_); refine bx_ 11 #[.int .i64 0, .int .i64 0, .int .i64 0, .bool false] 30 ?_; intro gb625 hg w27 hbox hb; have BK625 := Aside0.mk (hbox); have GW625 := bs_ HB hg; have GE625 := bs_ HB hg; replace HB := bt_ HB hb; clear hb hbox hg; have hcz28_0 : w27.cell? ⟨gb625, 0, none⟩ = some (.int .i64 0) := (blk_cell BK625.out 0).trans rfl; have hcz28_1 : w27.cell? ⟨gb625, 1, none⟩ = some (.int .i64 0) := (blk_cell BK625.out 1).trans rfl; have hcz28_2 : w27.cell? ⟨gb625, 2, none⟩ = some (.int .i64 0) := (blk_cell BK625.out 2).trans rfl; have hcz28_3 : w27.cell? ⟨gb625, 3, none⟩ = some (.bool false) := (blk_cell BK625.out 3).trans rfl; have hfz28_0 := blk_frozen BK625.out 0; have hfz28_1 := blk_frozen BK625.out 1; have hfz28_2 := blk_frozen BK625.out 2; have hfz28_3 := blk_frozen BK625.out 3))
              have n0_ : Aside0 ((((((w27.setCell ⟨gb625, 0, none⟩ (.int .i64 ((rd_T30 l2 (ji17)).f0.f0))).setCell ⟨gb625, 1, none⟩ (.int .i64 ((rd_T30 l2 (ji17)).f0.f1))).setCell ⟨gb625, 2, none⟩ (.int .i64 ((rd_T30 l2 (ji17)).f0.f2))).setCell ⟨gb625, 3, none⟩ (.bool ((rd_T30 l2 (ji17)).f1))).setCell ⟨gb625, 3, none⟩ (.bool (!((rd_T30 l2 (ji17)).f1)))).heap[gb625]? = some (.cells #[.int .i64 ((rd_T30 l2 (ji17)).f0.f0), .int .i64 ((rd_T30 l2 (ji17)).f0.f1), .int .i64 ((rd_T30 l2 (ji17)).f0.f2), .bool (!((rd_T30 l2 (ji17)).f1))] 30 (0, 0))) := ⟨by (with_reducible repeat first | apply blk_drewN | apply blk_drew | apply blk_alloc); refine blk_put (cs := #[.int .i64 ((rd_T30 l2 (ji17)).f0.f0), .int .i64 ((rd_T30 l2 (ji17)).f0.f1), .int .i64 ((rd_T30 l2 (ji17)).f0.f2), .bool ((rd_T30 l2 (ji17)).f1)]) ?_ 3 _ rfl; (with_reducible repeat first | apply blk_drewN | apply blk_drew | apply blk_alloc); refine blk_put (cs := #[.int .i64 ((rd_T30 l2 (ji17)).f0.f0), .int .i64 ((rd_T30 l2 (ji17)).f0.f1), .int .i64 ((rd_T30 l2 (ji17)).f0.f2), .bool false]) ?_ 3 _ rfl; (with_reducible repeat first | apply blk_drewN | apply blk_drew | apply blk_alloc); refine blk_put (cs := #[.int .i64 ((rd_T30 l2 (ji17)).f0.f0), .int .i64 ((rd_T30 l2 (ji17)).f0.f1), .int .i64 0, .bool false]) ?_ 2 _ rfl; (with_reducible repeat first | apply blk_drewN | apply blk_drew | apply blk_alloc); refine blk_put (cs := #[.int .i64 ((rd_T30 l2 (ji17)).f0.f0), .int .i64 0, .int .i64 0, .bool false]) ?_ 1 _ rfl; (with_reducible repeat first | apply blk_drewN | apply blk_drew | apply blk_alloc); refine blk_put (cs := #[.int .i64 0, .int .i64 0, .int .i64 0, .bool false]) ?_ 0 _ rfl; (with_reducible repeat first | apply blk_drewN | apply blk_drew | apply blk_alloc); exact BK625.out⟩
              have n1_ : Aside0 (Below w.heap.size w (((((w27.setCell ⟨gb625, 0, none⟩ (.int .i64 ((rd_T30 l2 (ji17)).f0.f0))).setCell ⟨gb625, 1, none⟩ (.int .i64 ((rd_T30 l2 (ji17)).f0.f1))).setCell ⟨gb625, 2, none⟩ (.int .i64 ((rd_T30 l2 (ji17)).f0.f2))).setCell ⟨gb625, 3, none⟩ (.bool ((rd_T30 l2 (ji17)).f1))).setCell ⟨gb625, 3, none⟩ (.bool (!((rd_T30 l2 (ji17)).f1))))) := bw_ HB
              (try clear BK625)
              (try clear HB)
              generalize (((((w27.setCell ⟨gb625, 0, none⟩ (.int .i64 ((rd_T30 l2 (ji17)).f0.f0))).setCell ⟨gb625, 1, none⟩ (.int .i64 ((rd_T30 l2 (ji17)).f0.f1))).setCell ⟨gb625, 2, none⟩ (.int .i64 ((rd_T30 l2 (ji17)).f0.f2))).setCell ⟨gb625, 3, none⟩ (.bool ((rd_T30 l2 (ji17)).f1))).setCell ⟨gb625, 3, none⟩ (.bool (!((rd_T30 l2 (ji17)).f1)))) = w29 at n0_ n1_ ⊢
              have BK625 := n0_
              have HB := n1_
              clear n0_ n1_
              replace BK625 := Aside0.mk (blk_drew BK625.out)
              replace HB := Aside0.mk (below_drew1 HB.out)
              have p626 : 0 ≤ (x10_2 : Int) := of_decide_eq_true (by first | (with_reducible assumption) | assumption)
              have q626 : x10_2 < (l1.length : Int) := of_decide_eq_true (by first | (with_reducible assumption) | assumption)
              obtain ⟨ad626, e626, hx626_0, hx626_1, hx626_2, hx626_3⟩ := at_T33 HR1.out x10_2 p626 q626
              have hw626_3 := hx626_3
              have hw626_2 := hx626_2
              have hw626_1 := hx626_1
              have hw626_0 := hx626_0
              cases e626
              replace hx626_0 := clTr HB.out hx626_0
              replace hx626_1 := clTr HB.out hx626_1
              replace hx626_2 := clTr HB.out hx626_2
              replace hx626_3 := clTr HB.out hx626_3
              replace p626 := eq_true p626
              replace q626 := eq_true q626
              refine start_ (n := 13) (S := fun w' => w'.cell? ⟨gb625, 0, none⟩ = some (.int .i64 ((rd_T30 l2 (ji17)).f0.f0)) ∧ w'.cell? ⟨gb625, 1, none⟩ = some (.int .i64 ((rd_T30 l2 (ji17)).f0.f1)) ∧ w'.cell? ⟨gb625, 2, none⟩ = some (.int .i64 ((rd_T30 l2 (ji17)).f0.f2)) ∧ w'.cell? ⟨gb625, 3, none⟩ = some (.bool (!((rd_T30 l2 (ji17)).f1))) ∧ w'.cell? (ad626.add ((x10_2).toNat * 4)) = some (.int .i64 ((rd_T33 l1 x10_2).f0.f0)) ∧ w'.cell? ⟨(ad626.add ((x10_2).toNat * 4)).block, (ad626.add ((x10_2).toNat * 4)).off + 1, none⟩ = some (.int .i64 ((rd_T33 l1 x10_2).f0.f1)) ∧ w'.cell? ⟨(ad626.add ((x10_2).toNat * 4)).block, (ad626.add ((x10_2).toNat * 4)).off + 2, none⟩ = some (.int .i64 ((rd_T33 l1 x10_2).f1.f0)) ∧ w'.cell? ⟨(ad626.add ((x10_2).toNat * 4)).block, (ad626.add ((x10_2).toNat * 4)).off + 3, none⟩ = some (.int .i64 ((rd_T33 l1 x10_2).f1.f1))) (ds := []) #[false, false, false, false, false, false, false, false, false, false, false, false, false] (by kernel_rfl) rfl rfl ⟨(blk_cell BK625.out 0).trans rfl, (blk_cell BK625.out 1).trans rfl, (blk_cell BK625.out 2).trans rfl, (blk_cell BK625.out 3).trans rfl, (clTr HB.out hw626_0), (clTr HB.out hw626_1), (clTr HB.out hw626_2), (clTr HB.out hw626_3)⟩ (fun hHeld => ?_); refine with_tabW spec_l09Free.tab14 spec_l09Free.bits14 (fun HT_ HW_ => ?_)
              generalize w29.drew = w30 at BK625 HB hx626_0 hx626_1 hx626_2 hx626_3 hHeld ⊢
              refine pu_ HT_ 0 (some 52) #[true, false, false, false, false, false, false, false, false, false, false, false, false] ?_
              refine pu_ HT_ 1 (some 53) #[true, true, false, false, false, false, false, false, false, false, false, false, false] ?_
              refine pu_ HT_ 2 (some 54) #[true, true, true, false, false, false, false, false, false, false, false, false, false] ?_
              refine pu_ HT_ 3 (some 55) #[true, true, true, true, false, false, false, false, false, false, false, false, false] ?_
              refine ta_ HT_ HW_ 4 (some 56) #[true, true, true, true, true, false, false, false, false, false, false, false, false] hHeld ?_ (hy := by rintro w' ⟨s0, s1, s2, s3, s4, s5, s6, s7⟩; go_simp; with_reducible rfl)
              refine ta_ HT_ HW_ 5 (some 57) #[true, true, true, true, true, true, false, false, false, false, false, false, false] hHeld ?_ (hy := by rintro w' ⟨s0, s1, s2, s3, s4, s5, s6, s7⟩; go_simp; with_reducible rfl)
              refine join_ (σ := Nat) 2 #[true, true, true, true, true, true, true, true, true, true, true, false, false] (fun s_ => [(58, .tuple #[.agg #[.int .i64 t627, .int .i64 t628, .int .i64 t629, .bool t630], .bool true]), (12, .pointer (some ⟨s_, 0, none⟩)), (51, .tuple #[.agg #[.int .i64 t627, .int .i64 t628, .int .i64 t629, .bool t630], .bool true]), (59, .agg #[.int .i64 t627, .int .i64 t628, .int .i64 t629, .bool t630]), (60, .bool true)]) (fun s_ w' => (w'.cell? ⟨gb625, 0, none⟩ = some (.int .i64 ((rd_T30 l2 (ji17)).f0.f0)) ∧ w'.cell? ⟨gb625, 1, none⟩ = some (.int .i64 ((rd_T30 l2 (ji17)).f0.f1)) ∧ w'.cell? ⟨gb625, 2, none⟩ = some (.int .i64 ((rd_T30 l2 (ji17)).f0.f2)) ∧ w'.cell? ⟨gb625, 3, none⟩ = some (.bool (!((rd_T30 l2 (ji17)).f1))) ∧ w'.cell? (ad626.add ((x10_2).toNat * 4)) = some (.int .i64 ((rd_T33 l1 x10_2).f0.f0)) ∧ w'.cell? ⟨(ad626.add ((x10_2).toNat * 4)).block, (ad626.add ((x10_2).toNat * 4)).off + 1, none⟩ = some (.int .i64 ((rd_T33 l1 x10_2).f0.f1)) ∧ w'.cell? ⟨(ad626.add ((x10_2).toNat * 4)).block, (ad626.add ((x10_2).toNat * 4)).off + 2, none⟩ = some (.int .i64 ((rd_T33 l1 x10_2).f1.f0)) ∧ w'.cell? ⟨(ad626.add ((x10_2).toNat * 4)).block, (ad626.add ((x10_2).toNat * 4)).off + 3, none⟩ = some (.int .i64 ((rd_T33 l1 x10_2).f1.f1))) ∧ (w'.heap[gb625]? = some (.cells #[.int .i64 ((rd_T30 l2 (ji17)).f0.f0), .int .i64 ((rd_T30 l2 (ji17)).f0.f1), .int .i64 ((rd_T30 l2 (ji17)).f0.f2), .bool (!((rd_T30 l2 (ji17)).f1))] 30 (0, 0))) ∧ (w'.heap[s_]? = some (.cells #[.int .i64 0, .int .i64 0, .int .i64 0, .bool false] 30 (0, 0))) ∧ (w.heap.size ≤ s_) ∧ (w.heap.size ≤ s_) ∧ (gb625 ≠ s_) ∧ (s_ ≠ gb625) ∧ (Below w.heap.size w w')) ?_ ?_
              rotate_left
              ·intro hCont
               refine two_ (i := 6) (j := 10) (Ni := some 58) (Nj := some 12) #[true, true, true, true, true, true, true, false, false, false, false, false, false] #[true, true, true, true, true, true, false, false, false, false, true, false, false] rfl rfl rfl rfl (two_of HT_.out (by kernel_rfl)) (by decide) (by decide) (fun K hK => ?_) (fun K hK => ?_)
               ·skip
                refine goes_ Try.func35 (by kernel_rfl) rfl #[.int .i64 a0, .agg #[.int .i64 ((rd_T33 l1 x10_2).f0.f0), .int .i64 ((rd_T33 l1 x10_2).f0.f1), .int .i64 ((rd_T33 l1 x10_2).f1.f0), .int .i64 ((rd_T33 l1 x10_2).f1.f1)], .agg #[.int .i64 ((rd_T30 l2 (ji17)).f0.f0), .int .i64 ((rd_T30 l2 (ji17)).f0.f1), .int .i64 ((rd_T30 l2 (ji17)).f0.f2), .bool (!((rd_T30 l2 (ji17)).f1))]] (by rfl) rfl rfl (by (try simp only [List.map_toArray, List.map_cons, List.map_nil]); first | done | (simp only [hji17]; rfl) | rfl | (simp only [List.length_drop, List.length_take]; rfl)) ?_
                with_reducible refine (spec_l09Move.calls k2 a0 ((rd_T33 l1 x10_2).f0.f0) ((rd_T33 l1 x10_2).f0.f1) ((rd_T33 l1 x10_2).f1.f0) ((rd_T33 l1 x10_2).f1.f1) ((rd_T30 l2 (ji17)).f0.f0) ((rd_T30 l2 (ji17)).f0.f1) ((rd_T30 l2 (ji17)).f0.f2) (!((rd_T30 l2 (ji17)).f1)) t627 t628 t629 t630 true _ A21.out).mono ?_
                rintro e w31 ⟨rfl, hb⟩
                refine ⟨_, rfl, ?_⟩
                replace BK625 := bb_ BK625 hb
                replace HB := bt_ HB hb
                (try clear hb)
                (try clear hb2)
                (try clear hk)
                (try clear hi)
                refine hK.out _ _ ⟨(blk_cell BK625.out 0).trans rfl, (blk_cell BK625.out 1).trans rfl, (blk_cell BK625.out 2).trans rfl, (blk_cell BK625.out 3).trans rfl, (clTr HB.out hw626_0), (clTr HB.out hw626_1), (clTr HB.out hw626_2), (clTr HB.out hw626_3)⟩ (fun hHeld => ?_)
                clear hK K
                refine norm_ (a' := ?_) ?_ ?_
                rotate_left
                ·show Act.put _ (some 58) _ = _
                 simp only [Act.put, lstS, lstZ, lstC, i64_w, i32_w]
                 rfl
                refine pu_ HT_ 7 (some 51) #[true, true, true, true, true, true, true, true, false, false, false, false, false] ?_
                refine pu_ HT_ 8 (some 59) #[true, true, true, true, true, true, true, true, true, false, false, false, false] ?_
                refine pu_ HT_ 9 (some 60) #[true, true, true, true, true, true, true, true, true, true, false, false, false] ?_
                refine one_ (i := 10) (N := some 12) #[true, true, true, true, true, true, true, true, true, true, true, false, false] rfl rfl (one_of HT_.out (by kernel_rfl)) (by decide) (fun K hK => ?_)
                refine box_step ?hg (N := 12) ?hd (cs := #[.int .i64 0, .int .i64 0, .int .i64 0, .bool false]) (t := 30) ?hr ?_; (case hd => rfl); (case hg => rfl); (case hr => first | (go_simp; done) | (go_simp; rfl))
                intro gb632 hg w32 hbox hb
                have BK632 := Aside0.mk (hbox)
                have GW632 := bs_ HB hg
                have GE632 := bs_ HB hg
                have NB625_632 := bm_ BK625 hg
                have NB632_625 := bn_ BK625 hg
                replace BK625 := bb_ BK625 hb
                replace HB := bt_ HB hb
                clear hb hbox hg
                refine hK.out _ _ ⟨(blk_cell BK625.out 0).trans rfl, (blk_cell BK625.out 1).trans rfl, (blk_cell BK625.out 2).trans rfl, (blk_cell BK625.out 3).trans rfl, (clTr HB.out hw626_0), (clTr HB.out hw626_1), (clTr HB.out hw626_2), (clTr HB.out hw626_3)⟩ (fun hHeld => ?_)
                clear hK K
                refine norm_ (a' := ?_) ?_ ?_
                rotate_left
                ·show Act.put _ (some 12) _ = _
                 simp only [Act.put, lstS, lstZ, lstC, i64_w, i32_w]
                 rfl
                exact norm_ (by simp only [putAll, Act.put, lstS, lstZ, lstC]) (hCont (gb632) _ ⟨hHeld, (bl_ BK625).out, (bl_ BK632).out, GW632.out, GE632.out, NB625_632.out, NB632_625.out, (bw_ HB).out⟩)
               ·skip
                refine box_step ?hg (N := 12) ?hd (cs := #[.int .i64 0, .int .i64 0, .int .i64 0, .bool false]) (t := 30) ?hr ?_; (case hd => rfl); (case hg => rfl); (case hr => first | (go_simp; done) | (go_simp; rfl))
                intro gb632 hg w31 hbox hb
                have BK632 := Aside0.mk (hbox)
                have GW632 := bs_ HB hg
                have GE632 := bs_ HB hg
                have NB625_632 := bm_ BK625 hg
                have NB632_625 := bn_ BK625 hg
                replace BK625 := bb_ BK625 hb
                replace HB := bt_ HB hb
                clear hb hbox hg
                refine hK.out _ _ ⟨(blk_cell BK625.out 0).trans rfl, (blk_cell BK625.out 1).trans rfl, (blk_cell BK625.out 2).trans rfl, (blk_cell BK625.out 3).trans rfl, (clTr HB.out hw626_0), (clTr HB.out hw626_1), (clTr HB.out hw626_2), (clTr HB.out hw626_3)⟩ (fun hHeld => ?_)
                clear hK K
                refine norm_ (a' := ?_) ?_ ?_
                rotate_left
                ·show Act.put _ (some 12) _ = _
                 simp only [Act.put, lstS, lstZ, lstC, i64_w, i32_w]
                 rfl
                refine one_ (i := 6) (N := some 58) #[true, true, true, true, true, true, true, false, false, false, true, false, false] rfl rfl (one_of HT_.out (by kernel_rfl)) (by decide) (fun K hK => ?_)
                refine goes_ Try.func35 (by kernel_rfl) rfl #[.int .i64 a0, .agg #[.int .i64 ((rd_T33 l1 x10_2).f0.f0), .int .i64 ((rd_T33 l1 x10_2).f0.f1), .int .i64 ((rd_T33 l1 x10_2).f1.f0), .int .i64 ((rd_T33 l1 x10_2).f1.f1)], .agg #[.int .i64 ((rd_T30 l2 (ji17)).f0.f0), .int .i64 ((rd_T30 l2 (ji17)).f0.f1), .int .i64 ((rd_T30 l2 (ji17)).f0.f2), .bool (!((rd_T30 l2 (ji17)).f1))]] (by rfl) rfl rfl (by (try simp only [List.map_toArray, List.map_cons, List.map_nil]); first | done | (simp only [hji17]; rfl) | rfl | (simp only [List.length_drop, List.length_take]; rfl)) ?_
                with_reducible refine (spec_l09Move.calls k2 a0 ((rd_T33 l1 x10_2).f0.f0) ((rd_T33 l1 x10_2).f0.f1) ((rd_T33 l1 x10_2).f1.f0) ((rd_T33 l1 x10_2).f1.f1) ((rd_T30 l2 (ji17)).f0.f0) ((rd_T30 l2 (ji17)).f0.f1) ((rd_T30 l2 (ji17)).f0.f2) (!((rd_T30 l2 (ji17)).f1)) t627 t628 t629 t630 true _ A21.out).mono ?_
                rintro e w32 ⟨rfl, hb⟩
                refine ⟨_, rfl, ?_⟩
                replace BK625 := bb_ BK625 hb
                replace BK632 := bb_ BK632 hb
                replace HB := bt_ HB hb
                (try clear hb)
                (try clear hb2)
                (try clear hk)
                (try clear hi)
                refine hK.out _ _ ⟨(blk_cell BK625.out 0).trans rfl, (blk_cell BK625.out 1).trans rfl, (blk_cell BK625.out 2).trans rfl, (blk_cell BK625.out 3).trans rfl, (clTr HB.out hw626_0), (clTr HB.out hw626_1), (clTr HB.out hw626_2), (clTr HB.out hw626_3)⟩ (fun hHeld => ?_)
                clear hK K
                refine norm_ (a' := ?_) ?_ ?_
                rotate_left
                ·show Act.put _ (some 58) _ = _
                 simp only [Act.put, lstS, lstZ, lstC, i64_w, i32_w]
                 rfl
                refine pu_ HT_ 7 (some 51) #[true, true, true, true, true, true, true, true, false, false, true, false, false] ?_
                refine pu_ HT_ 8 (some 59) #[true, true, true, true, true, true, true, true, true, false, true, false, false] ?_
                refine pu_ HT_ 9 (some 60) #[true, true, true, true, true, true, true, true, true, true, true, false, false] ?_
                exact norm_ (by simp only [putAll, Act.put, lstS, lstZ, lstC]) (hCont (gb632) _ ⟨hHeld, (bl_ BK625).out, (bl_ BK632).out, GW632.out, GE632.out, NB625_632.out, NB632_625.out, (bw_ HB).out⟩)
              rintro gb632 w33 ⟨hS_, h0_, h1_, h2_, h3_, h4_, h5_, h6_⟩
              have n0_ : Aside0 (w33.heap[gb625]? = some (.cells #[.int .i64 ((rd_T30 l2 (ji17)).f0.f0), .int .i64 ((rd_T30 l2 (ji17)).f0.f1), .int .i64 ((rd_T30 l2 (ji17)).f0.f2), .bool (!((rd_T30 l2 (ji17)).f1))] 30 (0, 0))) := ⟨h0_⟩
              have n1_ : Aside0 (w33.heap[gb632]? = some (.cells #[.int .i64 0, .int .i64 0, .int .i64 0, .bool false] 30 (0, 0))) := ⟨h1_⟩
              have n2_ : Aside0 (w.heap.size ≤ gb632) := ⟨h2_⟩
              have n3_ : Aside0 (w.heap.size ≤ gb632) := ⟨h3_⟩
              have n4_ : Aside0 (gb625 ≠ gb632) := ⟨h4_⟩
              have n5_ : Aside0 (gb632 ≠ gb625) := ⟨h5_⟩
              have n6_ : Aside0 (Below w.heap.size w w33) := ⟨h6_⟩
              clear BK625
              clear HB
              clear h0_ h1_ h2_ h3_ h4_ h5_ h6_
              have BK625 := n0_
              have BK632 := n1_
              have GW632 := n2_
              have GE632 := n3_
              have NB625_632 := n4_
              have NB632_625 := n5_
              have HB := n6_
              clear n0_ n1_ n2_ n3_ n4_ n5_ n6_
              have hHeld : w33.cell? ⟨gb625, 0, none⟩ = some (.int .i64 ((rd_T30 l2 (ji17)).f0.f0)) ∧ w33.cell? ⟨gb625, 1, none⟩ = some (.int .i64 ((rd_T30 l2 (ji17)).f0.f1)) ∧ w33.cell? ⟨gb625, 2, none⟩ = some (.int .i64 ((rd_T30 l2 (ji17)).f0.f2)) ∧ w33.cell? ⟨gb625, 3, none⟩ = some (.bool (!((rd_T30 l2 (ji17)).f1))) ∧ w33.cell? (ad626.add ((x10_2).toNat * 4)) = some (.int .i64 ((rd_T33 l1 x10_2).f0.f0)) ∧ w33.cell? ⟨(ad626.add ((x10_2).toNat * 4)).block, (ad626.add ((x10_2).toNat * 4)).off + 1, none⟩ = some (.int .i64 ((rd_T33 l1 x10_2).f0.f1)) ∧ w33.cell? ⟨(ad626.add ((x10_2).toNat * 4)).block, (ad626.add ((x10_2).toNat * 4)).off + 2, none⟩ = some (.int .i64 ((rd_T33 l1 x10_2).f1.f0)) ∧ w33.cell? ⟨(ad626.add ((x10_2).toNat * 4)).block, (ad626.add ((x10_2).toNat * 4)).off + 3, none⟩ = some (.int .i64 ((rd_T33 l1 x10_2).f1.f1)) := hS_
              refine norm_ (a' := ?_) ?_ ?_
              rotate_left
              ·simp only [putAll, Act.put, lstS, lstZ, lstC]
               rfl
              refine one_ (i := 11) (N := none) #[true, true, true, true, true, true, true, true, true, true, true, true, false] rfl rfl (one_of HT_.out (by kernel_rfl)) (by decide) (fun K hK => ?_)
              have hs34 : w33.cell? ⟨gb632, 0, none⟩ = some (.int .i64 0) := (blk_cell BK632.out 0).trans rfl
              have hfs34 := blk_frozen BK632.out 0
              have hns34_0 := NB625_632.out
              have hms34_0 := NB632_625.out
              have hs35 : w33.cell? ⟨gb632, 1, none⟩ = some (.int .i64 0) := (blk_cell BK632.out 1).trans rfl
              have hfs35 := blk_frozen BK632.out 1
              have hns35_0 := NB625_632.out
              have hms35_0 := NB632_625.out
              have hs36 : w33.cell? ⟨gb632, 2, none⟩ = some (.int .i64 0) := (blk_cell BK632.out 2).trans rfl
              have hfs36 := blk_frozen BK632.out 2
              have hns36_0 := NB625_632.out
              have hms36_0 := NB632_625.out
              have hs37 : w33.cell? ⟨gb632, 3, none⟩ = some (.bool false) := (blk_cell BK632.out 3).trans rfl
              have hfs37 := blk_frozen BK632.out 3
              have hns37_0 := NB625_632.out
              have hms37_0 := NB632_625.out
              refine skip_ (w1 := ?_) (by rfl) rfl ?_ ?_
              rotate_left
              ·go_simp
               rfl
              refine hK.out _ _ ⟨((cell_far (p := ⟨gb632, _, none⟩) NB625_632.out _).trans (((cell_far (p := ⟨gb632, _, none⟩) NB625_632.out _).trans (((cell_far (p := ⟨gb632, _, none⟩) NB625_632.out _).trans (((cell_far (p := ⟨gb632, _, none⟩) NB625_632.out _).trans (hHeld.1)))))))), ((cell_far (p := ⟨gb632, _, none⟩) NB625_632.out _).trans (((cell_far (p := ⟨gb632, _, none⟩) NB625_632.out _).trans (((cell_far (p := ⟨gb632, _, none⟩) NB625_632.out _).trans (((cell_far (p := ⟨gb632, _, none⟩) NB625_632.out _).trans (hHeld.2.1)))))))), ((cell_far (p := ⟨gb632, _, none⟩) NB625_632.out _).trans (((cell_far (p := ⟨gb632, _, none⟩) NB625_632.out _).trans (((cell_far (p := ⟨gb632, _, none⟩) NB625_632.out _).trans (((cell_far (p := ⟨gb632, _, none⟩) NB625_632.out _).trans (hHeld.2.2.1)))))))), ((cell_far (p := ⟨gb632, _, none⟩) NB625_632.out _).trans (((cell_far (p := ⟨gb632, _, none⟩) NB625_632.out _).trans (((cell_far (p := ⟨gb632, _, none⟩) NB625_632.out _).trans (((cell_far (p := ⟨gb632, _, none⟩) NB625_632.out _).trans (hHeld.2.2.2.1)))))))), ((cell_far (p := ⟨gb632, _, none⟩) (by first | exact Nat.ne_of_lt (Nat.lt_of_lt_of_le (by have := World.block_lt_of_cell? _ _ hw626_0; first | rwa [add_block] at this | exact this) GW632.out) | (rw [add_block]; exact Nat.ne_of_lt (Nat.lt_of_lt_of_le (by have := World.block_lt_of_cell? _ _ hw626_0; first | rwa [add_block] at this | exact this) GW632.out)) | (show (Addr.add _ _).block ≠ _; rw [add_block]; exact Nat.ne_of_lt (Nat.lt_of_lt_of_le (by have := World.block_lt_of_cell? _ _ hw626_0; first | rwa [add_block] at this | exact this) GW632.out)) | (dsimp only; exact Nat.ne_of_lt (Nat.lt_of_lt_of_le (by have := World.block_lt_of_cell? _ _ hw626_0; first | rwa [add_block] at this | exact this) GW632.out))) _).trans (((cell_far (p := ⟨gb632, _, none⟩) (by first | exact Nat.ne_of_lt (Nat.lt_of_lt_of_le (by have := World.block_lt_of_cell? _ _ hw626_0; first | rwa [add_block] at this | exact this) GW632.out) | (rw [add_block]; exact Nat.ne_of_lt (Nat.lt_of_lt_of_le (by have := World.block_lt_of_cell? _ _ hw626_0; first | rwa [add_block] at this | exact this) GW632.out)) | (show (Addr.add _ _).block ≠ _; rw [add_block]; exact Nat.ne_of_lt (Nat.lt_of_lt_of_le (by have := World.block_lt_of_cell? _ _ hw626_0; first | rwa [add_block] at this | exact this) GW632.out)) | (dsimp only; exact Nat.ne_of_lt (Nat.lt_of_lt_of_le (by have := World.block_lt_of_cell? _ _ hw626_0; first | rwa [add_block] at this | exact this) GW632.out))) _).trans (((cell_far (p := ⟨gb632, _, none⟩) (by first | exact Nat.ne_of_lt (Nat.lt_of_lt_of_le (by have := World.block_lt_of_cell? _ _ hw626_0; first | rwa [add_block] at this | exact this) GW632.out) | (rw [add_block]; exact Nat.ne_of_lt (Nat.lt_of_lt_of_le (by have := World.block_lt_of_cell? _ _ hw626_0; first | rwa [add_block] at this | exact this) GW632.out)) | (show (Addr.add _ _).block ≠ _; rw [add_block]; exact Nat.ne_of_lt (Nat.lt_of_lt_of_le (by have := World.block_lt_of_cell? _ _ hw626_0; first | rwa [add_block] at this | exact this) GW632.out)) | (dsimp only; exact Nat.ne_of_lt (Nat.lt_of_lt_of_le (by have := World.block_lt_of_cell? _ _ hw626_0; first | rwa [add_block] at this | exact this) GW632.out))) _).trans (((cell_far (p := ⟨gb632, _, none⟩) (by first | exact Nat.ne_of_lt (Nat.lt_of_lt_of_le (by have := World.block_lt_of_cell? _ _ hw626_0; first | rwa [add_block] at this | exact this) GW632.out) | (rw [add_block]; exact Nat.ne_of_lt (Nat.lt_of_lt_of_le (by have := World.block_lt_of_cell? _ _ hw626_0; first | rwa [add_block] at this | exact this) GW632.out)) | (show (Addr.add _ _).block ≠ _; rw [add_block]; exact Nat.ne_of_lt (Nat.lt_of_lt_of_le (by have := World.block_lt_of_cell? _ _ hw626_0; first | rwa [add_block] at this | exact this) GW632.out)) | (dsimp only; exact Nat.ne_of_lt (Nat.lt_of_lt_of_le (by have := World.block_lt_of_cell? _ _ hw626_0; first | rwa [add_block] at this | exact this) GW632.out))) _).trans (hHeld.2.2.2.2.1)))))))), ((cell_far (p := ⟨gb632, _, none⟩) (by first | exact Nat.ne_of_lt (Nat.lt_of_lt_of_le (by have := World.block_lt_of_cell? _ _ hw626_1; first | rwa [add_block] at this | exact this) GW632.out) | (rw [add_block]; exact Nat.ne_of_lt (Nat.lt_of_lt_of_le (by have := World.block_lt_of_cell? _ _ hw626_1; first | rwa [add_block] at this | exact this) GW632.out)) | (show (Addr.add _ _).block ≠ _; rw [add_block]; exact Nat.ne_of_lt (Nat.lt_of_lt_of_le (by have := World.block_lt_of_cell? _ _ hw626_1; first | rwa [add_block] at this | exact this) GW632.out)) | (dsimp only; exact Nat.ne_of_lt (Nat.lt_of_lt_of_le (by have := World.block_lt_of_cell? _ _ hw626_1; first | rwa [add_block] at this | exact this) GW632.out))) _).trans (((cell_far (p := ⟨gb632, _, none⟩) (by first | exact Nat.ne_of_lt (Nat.lt_of_lt_of_le (by have := World.block_lt_of_cell? _ _ hw626_1; first | rwa [add_block] at this | exact this) GW632.out) | (rw [add_block]; exact Nat.ne_of_lt (Nat.lt_of_lt_of_le (by have := World.block_lt_of_cell? _ _ hw626_1; first | rwa [add_block] at this | exact this) GW632.out)) | (show (Addr.add _ _).block ≠ _; rw [add_block]; exact Nat.ne_of_lt (Nat.lt_of_lt_of_le (by have := World.block_lt_of_cell? _ _ hw626_1; first | rwa [add_block] at this | exact this) GW632.out)) | (dsimp only; exact Nat.ne_of_lt (Nat.lt_of_lt_of_le (by have := World.block_lt_of_cell? _ _ hw626_1; first | rwa [add_block] at this | exact this) GW632.out))) _).trans (((cell_far (p := ⟨gb632, _, none⟩) (by first | exact Nat.ne_of_lt (Nat.lt_of_lt_of_le (by have := World.block_lt_of_cell? _ _ hw626_1; first | rwa [add_block] at this | exact this) GW632.out) | (rw [add_block]; exact Nat.ne_of_lt (Nat.lt_of_lt_of_le (by have := World.block_lt_of_cell? _ _ hw626_1; first | rwa [add_block] at this | exact this) GW632.out)) | (show (Addr.add _ _).block ≠ _; rw [add_block]; exact Nat.ne_of_lt (Nat.lt_of_lt_of_le (by have := World.block_lt_of_cell? _ _ hw626_1; first | rwa [add_block] at this | exact this) GW632.out)) | (dsimp only; exact Nat.ne_of_lt (Nat.lt_of_lt_of_le (by have := World.block_lt_of_cell? _ _ hw626_1; first | rwa [add_block] at this | exact this) GW632.out))) _).trans (((cell_far (p := ⟨gb632, _, none⟩) (by first | exact Nat.ne_of_lt (Nat.lt_of_lt_of_le (by have := World.block_lt_of_cell? _ _ hw626_1; first | rwa [add_block] at this | exact this) GW632.out) | (rw [add_block]; exact Nat.ne_of_lt (Nat.lt_of_lt_of_le (by have := World.block_lt_of_cell? _ _ hw626_1; first | rwa [add_block] at this | exact this) GW632.out)) | (show (Addr.add _ _).block ≠ _; rw [add_block]; exact Nat.ne_of_lt (Nat.lt_of_lt_of_le (by have := World.block_lt_of_cell? _ _ hw626_1; first | rwa [add_block] at this | exact this) GW632.out)) | (dsimp only; exact Nat.ne_of_lt (Nat.lt_of_lt_of_le (by have := World.block_lt_of_cell? _ _ hw626_1; first | rwa [add_block] at this | exact this) GW632.out))) _).trans (hHeld.2.2.2.2.2.1)))))))), ((cell_far (p := ⟨gb632, _, none⟩) (by first | exact Nat.ne_of_lt (Nat.lt_of_lt_of_le (by have := World.block_lt_of_cell? _ _ hw626_2; first | rwa [add_block] at this | exact this) GW632.out) | (rw [add_block]; exact Nat.ne_of_lt (Nat.lt_of_lt_of_le (by have := World.block_lt_of_cell? _ _ hw626_2; first | rwa [add_block] at this | exact this) GW632.out)) | (show (Addr.add _ _).block ≠ _; rw [add_block]; exact Nat.ne_of_lt (Nat.lt_of_lt_of_le (by have := World.block_lt_of_cell? _ _ hw626_2; first | rwa [add_block] at this | exact this) GW632.out)) | (dsimp only; exact Nat.ne_of_lt (Nat.lt_of_lt_of_le (by have := World.block_lt_of_cell? _ _ hw626_2; first | rwa [add_block] at this | exact this) GW632.out))) _).trans (((cell_far (p := ⟨gb632, _, none⟩) (by first | exact Nat.ne_of_lt (Nat.lt_of_lt_of_le (by have := World.block_lt_of_cell? _ _ hw626_2; first | rwa [add_block] at this | exact this) GW632.out) | (rw [add_block]; exact Nat.ne_of_lt (Nat.lt_of_lt_of_le (by have := World.block_lt_of_cell? _ _ hw626_2; first | rwa [add_block] at this | exact this) GW632.out)) | (show (Addr.add _ _).block ≠ _; rw [add_block]; exact Nat.ne_of_lt (Nat.lt_of_lt_of_le (by have := World.block_lt_of_cell? _ _ hw626_2; first | rwa [add_block] at this | exact this) GW632.out)) | (dsimp only; exact Nat.ne_of_lt (Nat.lt_of_lt_of_le (by have := World.block_lt_of_cell? _ _ hw626_2; first | rwa [add_block] at this | exact this) GW632.out))) _).trans (((cell_far (p := ⟨gb632, _, none⟩) (by first | exact Nat.ne_of_lt (Nat.lt_of_lt_of_le (by have := World.block_lt_of_cell? _ _ hw626_2; first | rwa [add_block] at this | exact this) GW632.out) | (rw [add_block]; exact Nat.ne_of_lt (Nat.lt_of_lt_of_le (by have := World.block_lt_of_cell? _ _ hw626_2; first | rwa [add_block] at this | exact this) GW632.out)) | (show (Addr.add _ _).block ≠ _; rw [add_block]; exact Nat.ne_of_lt (Nat.lt_of_lt_of_le (by have := World.block_lt_of_cell? _ _ hw626_2; first | rwa [add_block] at this | exact this) GW632.out)) | (dsimp only; exact Nat.ne_of_lt (Nat.lt_of_lt_of_le (by have := World.block_lt_of_cell? _ _ hw626_2; first | rwa [add_block] at this | exact this) GW632.out))) _).trans (((cell_far (p := ⟨gb632, _, none⟩) (by first | exact Nat.ne_of_lt (Nat.lt_of_lt_of_le (by have := World.block_lt_of_cell? _ _ hw626_2; first | rwa [add_block] at this | exact this) GW632.out) | (rw [add_block]; exact Nat.ne_of_lt (Nat.lt_of_lt_of_le (by have := World.block_lt_of_cell? _ _ hw626_2; first | rwa [add_block] at this | exact this) GW632.out)) | (show (Addr.add _ _).block ≠ _; rw [add_block]; exact Nat.ne_of_lt (Nat.lt_of_lt_of_le (by have := World.block_lt_of_cell? _ _ hw626_2; first | rwa [add_block] at this | exact this) GW632.out)) | (dsimp only; exact Nat.ne_of_lt (Nat.lt_of_lt_of_le (by have := World.block_lt_of_cell? _ _ hw626_2; first | rwa [add_block] at this | exact this) GW632.out))) _).trans (hHeld.2.2.2.2.2.2.1)))))))), ((cell_far (p := ⟨gb632, _, none⟩) (by first | exact Nat.ne_of_lt (Nat.lt_of_lt_of_le (by have := World.block_lt_of_cell? _ _ hw626_3; first | rwa [add_block] at this | exact this) GW632.out) | (rw [add_block]; exact Nat.ne_of_lt (Nat.lt_of_lt_of_le (by have := World.block_lt_of_cell? _ _ hw626_3; first | rwa [add_block] at this | exact this) GW632.out)) | (show (Addr.add _ _).block ≠ _; rw [add_block]; exact Nat.ne_of_lt (Nat.lt_of_lt_of_le (by have := World.block_lt_of_cell? _ _ hw626_3; first | rwa [add_block] at this | exact this) GW632.out)) | (dsimp only; exact Nat.ne_of_lt (Nat.lt_of_lt_of_le (by have := World.block_lt_of_cell? _ _ hw626_3; first | rwa [add_block] at this | exact this) GW632.out))) _).trans (((cell_far (p := ⟨gb632, _, none⟩) (by first | exact Nat.ne_of_lt (Nat.lt_of_lt_of_le (by have := World.block_lt_of_cell? _ _ hw626_3; first | rwa [add_block] at this | exact this) GW632.out) | (rw [add_block]; exact Nat.ne_of_lt (Nat.lt_of_lt_of_le (by have := World.block_lt_of_cell? _ _ hw626_3; first | rwa [add_block] at this | exact this) GW632.out)) | (show (Addr.add _ _).block ≠ _; rw [add_block]; exact Nat.ne_of_lt (Nat.lt_of_lt_of_le (by have := World.block_lt_of_cell? _ _ hw626_3; first | rwa [add_block] at this | exact this) GW632.out)) | (dsimp only; exact Nat.ne_of_lt (Nat.lt_of_lt_of_le (by have := World.block_lt_of_cell? _ _ hw626_3; first | rwa [add_block] at this | exact this) GW632.out))) _).trans (((cell_far (p := ⟨gb632, _, none⟩) (by first | exact Nat.ne_of_lt (Nat.lt_of_lt_of_le (by have := World.block_lt_of_cell? _ _ hw626_3; first | rwa [add_block] at this | exact this) GW632.out) | (rw [add_block]; exact Nat.ne_of_lt (Nat.lt_of_lt_of_le (by have := World.block_lt_of_cell? _ _ hw626_3; first | rwa [add_block] at this | exact this) GW632.out)) | (show (Addr.add _ _).block ≠ _; rw [add_block]; exact Nat.ne_of_lt (Nat.lt_of_lt_of_le (by have := World.block_lt_of_cell? _ _ hw626_3; first | rwa [add_block] at this | exact this) GW632.out)) | (dsimp only; exact Nat.ne_of_lt (Nat.lt_of_lt_of_le (by have := World.block_lt_of_cell? _ _ hw626_3; first | rwa [add_block] at this | exact this) GW632.out))) _).trans (((cell_far (p := ⟨gb632, _, none⟩) (by first | exact Nat.ne_of_lt (Nat.lt_of_lt_of_le (by have := World.block_lt_of_cell? _ _ hw626_3; first | rwa [add_block] at this | exact this) GW632.out) | (rw [add_block]; exact Nat.ne_of_lt (Nat.lt_of_lt_of_le (by have := World.block_lt_of_cell? _ _ hw626_3; first | rwa [add_block] at this | exact this) GW632.out)) | (show (Addr.add _ _).block ≠ _; rw [add_block]; exact Nat.ne_of_lt (Nat.lt_of_lt_of_le (by have := World.block_lt_of_cell? _ _ hw626_3; first | rwa [add_block] at this | exact this) GW632.out)) | (dsimp only; exact Nat.ne_of_lt (Nat.lt_of_lt_of_le (by have := World.block_lt_of_cell? _ _ hw626_3; first | rwa [add_block] at this | exact this) GW632.out))) _).trans (hHeld.2.2.2.2.2.2.2))))))))⟩ (fun hHeld => ?_)
              clear hK K
              refine pu_ HT_ 12 (some 13) #[true, true, true, true, true, true, true, true, true, true, true, true, true] ?_
              refine done_ (done_of HT_.out (by kernel_rfl)) ?_
              try go_wp2
              have n0_ : Aside0 (((((w33.setCell ⟨gb632, 0, none⟩ (.int .i64 t627)).setCell ⟨gb632, 1, none⟩ (.int .i64 t628)).setCell ⟨gb632, 2, none⟩ (.int .i64 t629)).setCell ⟨gb632, 3, none⟩ (.bool t630)).heap[gb625]? = some (.cells #[.int .i64 ((rd_T30 l2 (ji17)).f0.f0), .int .i64 ((rd_T30 l2 (ji17)).f0.f1), .int .i64 ((rd_T30 l2 (ji17)).f0.f2), .bool (!((rd_T30 l2 (ji17)).f1))] 30 (0, 0))) := ⟨by (with_reducible repeat first | apply blk_drewN | apply blk_drew | apply blk_alloc); refine blk_far ?_ NB625_632.out _; (with_reducible repeat first | apply blk_drewN | apply blk_drew | apply blk_alloc); refine blk_far ?_ NB625_632.out _; (with_reducible repeat first | apply blk_drewN | apply blk_drew | apply blk_alloc); refine blk_far ?_ NB625_632.out _; (with_reducible repeat first | apply blk_drewN | apply blk_drew | apply blk_alloc); refine blk_far ?_ NB625_632.out _; (with_reducible repeat first | apply blk_drewN | apply blk_drew | apply blk_alloc); exact BK625.out⟩
              have n1_ : Aside0 (((((w33.setCell ⟨gb632, 0, none⟩ (.int .i64 t627)).setCell ⟨gb632, 1, none⟩ (.int .i64 t628)).setCell ⟨gb632, 2, none⟩ (.int .i64 t629)).setCell ⟨gb632, 3, none⟩ (.bool t630)).heap[gb632]? = some (.cells #[.int .i64 t627, .int .i64 t628, .int .i64 t629, .bool t630] 30 (0, 0))) := ⟨by (with_reducible repeat first | apply blk_drewN | apply blk_drew | apply blk_alloc); refine blk_put (cs := #[.int .i64 t627, .int .i64 t628, .int .i64 t629, .bool false]) ?_ 3 _ rfl; (with_reducible repeat first | apply blk_drewN | apply blk_drew | apply blk_alloc); refine blk_put (cs := #[.int .i64 t627, .int .i64 t628, .int .i64 0, .bool false]) ?_ 2 _ rfl; (with_reducible repeat first | apply blk_drewN | apply blk_drew | apply blk_alloc); refine blk_put (cs := #[.int .i64 t627, .int .i64 0, .int .i64 0, .bool false]) ?_ 1 _ rfl; (with_reducible repeat first | apply blk_drewN | apply blk_drew | apply blk_alloc); refine blk_put (cs := #[.int .i64 0, .int .i64 0, .int .i64 0, .bool false]) ?_ 0 _ rfl; (with_reducible repeat first | apply blk_drewN | apply blk_drew | apply blk_alloc); exact BK632.out⟩
              have n2_ : Aside0 (Below w.heap.size w ((((w33.setCell ⟨gb632, 0, none⟩ (.int .i64 t627)).setCell ⟨gb632, 1, none⟩ (.int .i64 t628)).setCell ⟨gb632, 2, none⟩ (.int .i64 t629)).setCell ⟨gb632, 3, none⟩ (.bool t630))) := bw_ HB
              (try clear BK625)
              (try clear BK632)
              (try clear HB)
              generalize ((((w33.setCell ⟨gb632, 0, none⟩ (.int .i64 t627)).setCell ⟨gb632, 1, none⟩ (.int .i64 t628)).setCell ⟨gb632, 2, none⟩ (.int .i64 t629)).setCell ⟨gb632, 3, none⟩ (.bool t630)) = w38 at n0_ n1_ n2_ ⊢
              have BK625 := n0_
              have BK632 := n1_
              have HB := n2_
              clear n0_ n1_ n2_
              replace BK625 := Aside0.mk (blk_drew BK625.out)
              replace BK632 := Aside0.mk (blk_drew BK632.out)
              replace HB := Aside0.mk (below_drew1 HB.out)
              have p633 : 0 ≤ ((ji23) : Int) := of_decide_eq_true (by first | (with_reducible assumption) | assumption)
              have q633 : (ji23) < (l2.length : Int) := of_decide_eq_true (by first | (with_reducible assumption) | assumption)
              obtain ⟨ad633, e633, hx633_0, hx633_1, hx633_2, hx633_3⟩ := at_T30 HR2.out (ji23) p633 q633
              have hw633_3 := hx633_3
              have hw633_2 := hx633_2
              have hw633_1 := hx633_1
              have hw633_0 := hx633_0
              obtain rfl : ad624 = ad633 := (by injection e633)
              replace hx633_0 := clTr HB.out hx633_0
              replace hx633_1 := clTr HB.out hx633_1
              replace hx633_2 := clTr HB.out hx633_2
              replace hx633_3 := clTr HB.out hx633_3
              replace p633 := eq_true p633
              replace q633 := eq_true q633
              refine start_ (n := 8) (S := fun w' => w'.cell? ⟨gb632, 0, none⟩ = some (.int .i64 t627) ∧ w'.cell? ⟨gb632, 1, none⟩ = some (.int .i64 t628) ∧ w'.cell? ⟨gb632, 2, none⟩ = some (.int .i64 t629) ∧ w'.cell? ⟨gb632, 3, none⟩ = some (.bool t630) ∧ w'.cell? (ad624.add (((ji23)).toNat * 4)) = some (.int .i64 ((rd_T30 l2 (ji23)).f0.f0)) ∧ w'.cell? ⟨(ad624.add (((ji23)).toNat * 4)).block, (ad624.add (((ji23)).toNat * 4)).off + 1, none⟩ = some (.int .i64 ((rd_T30 l2 (ji23)).f0.f1)) ∧ w'.cell? ⟨(ad624.add (((ji23)).toNat * 4)).block, (ad624.add (((ji23)).toNat * 4)).off + 2, none⟩ = some (.int .i64 ((rd_T30 l2 (ji23)).f0.f2)) ∧ w'.cell? ⟨(ad624.add (((ji23)).toNat * 4)).block, (ad624.add (((ji23)).toNat * 4)).off + 3, none⟩ = some (.bool ((rd_T30 l2 (ji23)).f1))) (ds := []) #[false, false, false, false, false, false, false, false] (by kernel_rfl) rfl rfl ⟨(blk_cell BK632.out 0).trans rfl, (blk_cell BK632.out 1).trans rfl, (blk_cell BK632.out 2).trans rfl, (blk_cell BK632.out 3).trans rfl, (clTr HB.out hw633_0), (clTr HB.out hw633_1), (clTr HB.out hw633_2), (clTr HB.out hw633_3)⟩ (fun hHeld => ?_); refine with_tabW spec_l09Free.tab17 spec_l09Free.bits17 (fun HT_ HW_ => ?_)
              generalize w38.drew = w39 at BK625 BK632 HB hx633_0 hx633_1 hx633_2 hx633_3 hHeld ⊢
              refine pu_ HT_ 1 (some 64) #[false, true, false, false, false, false, false, false] ?_
              refine pu_ HT_ 2 (some 65) #[false, true, true, false, false, false, false, false] ?_
              refine pu_ HT_ 3 (some 66) #[false, true, true, true, false, false, false, false] ?_
              refine pu_ HT_ 4 (some 67) #[false, true, true, true, true, false, false, false] ?_
              refine pu_ HT_ 5 (some 68) #[false, true, true, true, true, true, false, false] ?_
              refine ta_ HT_ HW_ 0 (some 63) #[true, true, true, true, true, true, false, false] hHeld ?_ (hy := by rintro w' ⟨s0, s1, s2, s3, s4, s5, s6, s7⟩; go_simp; with_reducible rfl)
              refine ta_ HT_ HW_ 6 (some 69) #[true, true, true, true, true, true, true, false] hHeld ?_ (hy := by rintro w' ⟨s0, s1, s2, s3, s4, s5, s6, s7⟩; go_simp; with_reducible rfl)
              refine pu_ HT_ 7 (some 70) #[true, true, true, true, true, true, true, true] ?_
              refine done_ (done_of HT_.out (by kernel_rfl)) ?_
              try go_wp2
              go_ret2
              exact ⟨by first | rfl | (simp [errW_none, errW_some] <;> rfl) | (simp only [← hji17, ← hji23]; first | rfl | (simp [errW_none, errW_some] <;> rfl)) | (simp [*, errW_none, errW_some] <;> rfl), by repeat (first | (with_reducible first | exact HB.out | apply below_alloc | apply pw_below_drewN | apply below_drew1 | refine below_set ?_ GE625.out | refine below_set ?_ GE632.out) | exact HB.out)⟩
             ·rw [if_neg c26] at H
              have c26b0 : ((!(t627 == ((rd_T30 l2 (ji23)).f0.f0)) || (!(t628 == ((rd_T30 l2 (ji23)).f0.f1)) || (!(t629 == ((rd_T30 l2 (ji23)).f0.f2))))) || (!(t630 == ((rd_T30 l2 (ji23)).f1)))) = false := by simpa using c26
              clear c26
              have H' := Aside0.mk H
              clear H
              have p624 : 0 ≤ ((ji17) : Int) := of_decide_eq_true (by first | (with_reducible assumption) | assumption)
              have q624 : (ji17) < (l2.length : Int) := of_decide_eq_true (by first | (with_reducible assumption) | assumption)
              obtain ⟨ad624, e624, hx624_0, hx624_1, hx624_2, hx624_3⟩ := at_T30 HR2.out (ji17) p624 q624
              cases e624
              replace hx624_0 := clTr HB.out hx624_0
              replace hx624_1 := clTr HB.out hx624_1
              replace hx624_2 := clTr HB.out hx624_2
              replace hx624_3 := clTr HB.out hx624_3
              replace p624 := eq_true p624
              replace q624 := eq_true q624
              try go_wp2_with (first | ((with_reducible refine gate_dst (N := 11) rfl ?_); refine bx_ 11 #[.int .i64 0, .int .i64 0, .int .i64 0, .bool false] 30 ?_; intro gb625 hg w40 hbox hb; have BK625 := Aside0.mk (hbox); have GW625 := bs_ HB hg; have GE625 := bs_ HB hg; replace HB := bt_ HB hb; clear hb hbox hg; have hcz41_0 : w40.cell? ⟨gb625, 0, none⟩ = some (.int .i64 0) := (blk_cell BK625.out 0).trans rfl; have hcz41_1 : w40.cell? ⟨gb625, 1, none⟩ = some (.int .i64 0) := (blk_cell BK625.out 1).trans rfl; have hcz41_2 : w40.cell? ⟨gb625, 2, none⟩ = some (.int .i64 0) := (blk_cell BK625.out 2).trans rfl; have hcz41_3 : w40.cell? ⟨gb625, 3, none⟩ = some (.bool false) := (blk_cell BK625.out 3).trans rfl; have hfz41_0 := blk_frozen BK625.out 0; have hfz41_1 := blk_frozen BK625.out 1; have hfz41_2 := blk_frozen BK625.out 2; have hfz41_3 := blk_frozen BK625.out 3))
              have n0_ : Aside0 ((((((w40.setCell ⟨gb625, 0, none⟩ (.int .i64 ((rd_T30 l2 (ji17)).f0.f0))).setCell ⟨gb625, 1, none⟩ (.int .i64 ((rd_T30 l2 (ji17)).f0.f1))).setCell ⟨gb625, 2, none⟩ (.int .i64 ((rd_T30 l2 (ji17)).f0.f2))).setCell ⟨gb625, 3, none⟩ (.bool ((rd_T30 l2 (ji17)).f1))).setCell ⟨gb625, 3, none⟩ (.bool (!((rd_T30 l2 (ji17)).f1)))).heap[gb625]? = some (.cells #[.int .i64 ((rd_T30 l2 (ji17)).f0.f0), .int .i64 ((rd_T30 l2 (ji17)).f0.f1), .int .i64 ((rd_T30 l2 (ji17)).f0.f2), .bool (!((rd_T30 l2 (ji17)).f1))] 30 (0, 0))) := ⟨by (with_reducible repeat first | apply blk_drewN | apply blk_drew | apply blk_alloc); refine blk_put (cs := #[.int .i64 ((rd_T30 l2 (ji17)).f0.f0), .int .i64 ((rd_T30 l2 (ji17)).f0.f1), .int .i64 ((rd_T30 l2 (ji17)).f0.f2), .bool ((rd_T30 l2 (ji17)).f1)]) ?_ 3 _ rfl; (with_reducible repeat first | apply blk_drewN | apply blk_drew | apply blk_alloc); refine blk_put (cs := #[.int .i64 ((rd_T30 l2 (ji17)).f0.f0), .int .i64 ((rd_T30 l2 (ji17)).f0.f1), .int .i64 ((rd_T30 l2 (ji17)).f0.f2), .bool false]) ?_ 3 _ rfl; (with_reducible repeat first | apply blk_drewN | apply blk_drew | apply blk_alloc); refine blk_put (cs := #[.int .i64 ((rd_T30 l2 (ji17)).f0.f0), .int .i64 ((rd_T30 l2 (ji17)).f0.f1), .int .i64 0, .bool false]) ?_ 2 _ rfl; (with_reducible repeat first | apply blk_drewN | apply blk_drew | apply blk_alloc); refine blk_put (cs := #[.int .i64 ((rd_T30 l2 (ji17)).f0.f0), .int .i64 0, .int .i64 0, .bool false]) ?_ 1 _ rfl; (with_reducible repeat first | apply blk_drewN | apply blk_drew | apply blk_alloc); refine blk_put (cs := #[.int .i64 0, .int .i64 0, .int .i64 0, .bool false]) ?_ 0 _ rfl; (with_reducible repeat first | apply blk_drewN | apply blk_drew | apply blk_alloc); exact BK625.out⟩
              have n1_ : Aside0 (Below w.heap.size w (((((w40.setCell ⟨gb625, 0, none⟩ (.int .i64 ((rd_T30 l2 (ji17)).f0.f0))).setCell ⟨gb625, 1, none⟩ (.int .i64 ((rd_T30 l2 (ji17)).f0.f1))).setCell ⟨gb625, 2, none⟩ (.int .i64 ((rd_T30 l2 (ji17)).f0.f2))).setCell ⟨gb625, 3, none⟩ (.bool ((rd_T30 l2 (ji17)).f1))).setCell ⟨gb625, 3, none⟩ (.bool (!((rd_T30 l2 (ji17)).f1))))) := bw_ HB
              (try clear BK625)
              (try clear HB)
              generalize (((((w40.setCell ⟨gb625, 0, none⟩ (.int .i64 ((rd_T30 l2 (ji17)).f0.f0))).setCell ⟨gb625, 1, none⟩ (.int .i64 ((rd_T30 l2 (ji17)).f0.f1))).setCell ⟨gb625, 2, none⟩ (.int .i64 ((rd_T30 l2 (ji17)).f0.f2))).setCell ⟨gb625, 3, none⟩ (.bool ((rd_T30 l2 (ji17)).f1))).setCell ⟨gb625, 3, none⟩ (.bool (!((rd_T30 l2 (ji17)).f1)))) = w42 at n0_ n1_ ⊢
              have BK625 := n0_
              have HB := n1_
              clear n0_ n1_
              replace BK625 := Aside0.mk (blk_drew BK625.out)
              replace HB := Aside0.mk (below_drew1 HB.out)
              have p626 : 0 ≤ (x10_2 : Int) := of_decide_eq_true (by first | (with_reducible assumption) | assumption)
              have q626 : x10_2 < (l1.length : Int) := of_decide_eq_true (by first | (with_reducible assumption) | assumption)
              obtain ⟨ad626, e626, hx626_0, hx626_1, hx626_2, hx626_3⟩ := at_T33 HR1.out x10_2 p626 q626
              have hw626_3 := hx626_3
              have hw626_2 := hx626_2
              have hw626_1 := hx626_1
              have hw626_0 := hx626_0
              cases e626
              replace hx626_0 := clTr HB.out hx626_0
              replace hx626_1 := clTr HB.out hx626_1
              replace hx626_2 := clTr HB.out hx626_2
              replace hx626_3 := clTr HB.out hx626_3
              replace p626 := eq_true p626
              replace q626 := eq_true q626
              refine start_ (n := 13) (S := fun w' => w'.cell? ⟨gb625, 0, none⟩ = some (.int .i64 ((rd_T30 l2 (ji17)).f0.f0)) ∧ w'.cell? ⟨gb625, 1, none⟩ = some (.int .i64 ((rd_T30 l2 (ji17)).f0.f1)) ∧ w'.cell? ⟨gb625, 2, none⟩ = some (.int .i64 ((rd_T30 l2 (ji17)).f0.f2)) ∧ w'.cell? ⟨gb625, 3, none⟩ = some (.bool (!((rd_T30 l2 (ji17)).f1))) ∧ w'.cell? (ad626.add ((x10_2).toNat * 4)) = some (.int .i64 ((rd_T33 l1 x10_2).f0.f0)) ∧ w'.cell? ⟨(ad626.add ((x10_2).toNat * 4)).block, (ad626.add ((x10_2).toNat * 4)).off + 1, none⟩ = some (.int .i64 ((rd_T33 l1 x10_2).f0.f1)) ∧ w'.cell? ⟨(ad626.add ((x10_2).toNat * 4)).block, (ad626.add ((x10_2).toNat * 4)).off + 2, none⟩ = some (.int .i64 ((rd_T33 l1 x10_2).f1.f0)) ∧ w'.cell? ⟨(ad626.add ((x10_2).toNat * 4)).block, (ad626.add ((x10_2).toNat * 4)).off + 3, none⟩ = some (.int .i64 ((rd_T33 l1 x10_2).f1.f1))) (ds := []) #[false, false, false, false, false, false, false, false, false, false, false, false, false] (by kernel_rfl) rfl rfl ⟨(blk_cell BK625.out 0).trans rfl, (blk_cell BK625.out 1).trans rfl, (blk_cell BK625.out 2).trans rfl, (blk_cell BK625.out 3).trans rfl, (clTr HB.out hw626_0), (clTr HB.out hw626_1), (clTr HB.out hw626_2), (clTr HB.out hw626_3)⟩ (fun hHeld => ?_); refine with_tabW spec_l09Free.tab14 spec_l09Free.bits14 (fun HT_ HW_ => ?_)
              generalize w42.drew = w43 at BK625 HB hx626_0 hx626_1 hx626_2 hx626_3 hHeld ⊢
              refine pu_ HT_ 0 (some 52) #[true, false, false, false, false, false, false, false, false, false, false, false, false] ?_
              refine pu_ HT_ 1 (some 53) #[true, true, false, false, false, false, false, false, false, false, false, false, false] ?_
              refine pu_ HT_ 2 (some 54) #[true, true, true, false, false, false, false, false, false, false, false, false, false] ?_
              refine pu_ HT_ 3 (some 55) #[true, true, true, true, false, false, false, false, false, false, false, false, false] ?_
              refine ta_ HT_ HW_ 4 (some 56) #[true, true, true, true, true, false, false, false, false, false, false, false, false] hHeld ?_ (hy := by rintro w' ⟨s0, s1, s2, s3, s4, s5, s6, s7⟩; go_simp; with_reducible rfl)
              refine ta_ HT_ HW_ 5 (some 57) #[true, true, true, true, true, true, false, false, false, false, false, false, false] hHeld ?_ (hy := by rintro w' ⟨s0, s1, s2, s3, s4, s5, s6, s7⟩; go_simp; with_reducible rfl)
              refine join_ (σ := Nat) 2 #[true, true, true, true, true, true, true, true, true, true, true, false, false] (fun s_ => [(58, .tuple #[.agg #[.int .i64 t627, .int .i64 t628, .int .i64 t629, .bool t630], .bool true]), (12, .pointer (some ⟨s_, 0, none⟩)), (51, .tuple #[.agg #[.int .i64 t627, .int .i64 t628, .int .i64 t629, .bool t630], .bool true]), (59, .agg #[.int .i64 t627, .int .i64 t628, .int .i64 t629, .bool t630]), (60, .bool true)]) (fun s_ w' => (w'.cell? ⟨gb625, 0, none⟩ = some (.int .i64 ((rd_T30 l2 (ji17)).f0.f0)) ∧ w'.cell? ⟨gb625, 1, none⟩ = some (.int .i64 ((rd_T30 l2 (ji17)).f0.f1)) ∧ w'.cell? ⟨gb625, 2, none⟩ = some (.int .i64 ((rd_T30 l2 (ji17)).f0.f2)) ∧ w'.cell? ⟨gb625, 3, none⟩ = some (.bool (!((rd_T30 l2 (ji17)).f1))) ∧ w'.cell? (ad626.add ((x10_2).toNat * 4)) = some (.int .i64 ((rd_T33 l1 x10_2).f0.f0)) ∧ w'.cell? ⟨(ad626.add ((x10_2).toNat * 4)).block, (ad626.add ((x10_2).toNat * 4)).off + 1, none⟩ = some (.int .i64 ((rd_T33 l1 x10_2).f0.f1)) ∧ w'.cell? ⟨(ad626.add ((x10_2).toNat * 4)).block, (ad626.add ((x10_2).toNat * 4)).off + 2, none⟩ = some (.int .i64 ((rd_T33 l1 x10_2).f1.f0)) ∧ w'.cell? ⟨(ad626.add ((x10_2).toNat * 4)).block, (ad626.add ((x10_2).toNat * 4)).off + 3, none⟩ = some (.int .i64 ((rd_T33 l1 x10_2).f1.f1))) ∧ (w'.heap[gb625]? = some (.cells #[.int .i64 ((rd_T30 l2 (ji17)).f0.f0), .int .i64 ((rd_T30 l2 (ji17)).f0.f1), .int .i64 ((rd_T30 l2 (ji17)).f0.f2), .bool (!((rd_T30 l2 (ji17)).f1))] 30 (0, 0))) ∧ (w'.heap[s_]? = some (.cells #[.int .i64 0, .int .i64 0, .int .i64 0, .bool false] 30 (0, 0))) ∧ (w.heap.size ≤ s_) ∧ (w.heap.size ≤ s_) ∧ (gb625 ≠ s_) ∧ (s_ ≠ gb625) ∧ (Below w.heap.size w w')) ?_ ?_
              rotate_left
              ·intro hCont
               refine two_ (i := 6) (j := 10) (Ni := some 58) (Nj := some 12) #[true, true, true, true, true, true, true, false, false, false, false, false, false] #[true, true, true, true, true, true, false, false, false, false, true, false, false] rfl rfl rfl rfl (two_of HT_.out (by kernel_rfl)) (by decide) (by decide) (fun K hK => ?_) (fun K hK => ?_)
               ·skip
                refine goes_ Try.func35 (by kernel_rfl) rfl #[.int .i64 a0, .agg #[.int .i64 ((rd_T33 l1 x10_2).f0.f0), .int .i64 ((rd_T33 l1 x10_2).f0.f1), .int .i64 ((rd_T33 l1 x10_2).f1.f0), .int .i64 ((rd_T33 l1 x10_2).f1.f1)], .agg #[.int .i64 ((rd_T30 l2 (ji17)).f0.f0), .int .i64 ((rd_T30 l2 (ji17)).f0.f1), .int .i64 ((rd_T30 l2 (ji17)).f0.f2), .bool (!((rd_T30 l2 (ji17)).f1))]] (by rfl) rfl rfl (by (try simp only [List.map_toArray, List.map_cons, List.map_nil]); first | done | (simp only [hji17]; rfl) | rfl | (simp only [List.length_drop, List.length_take]; rfl)) ?_
                with_reducible refine (spec_l09Move.calls k2 a0 ((rd_T33 l1 x10_2).f0.f0) ((rd_T33 l1 x10_2).f0.f1) ((rd_T33 l1 x10_2).f1.f0) ((rd_T33 l1 x10_2).f1.f1) ((rd_T30 l2 (ji17)).f0.f0) ((rd_T30 l2 (ji17)).f0.f1) ((rd_T30 l2 (ji17)).f0.f2) (!((rd_T30 l2 (ji17)).f1)) t627 t628 t629 t630 true _ A21.out).mono ?_
                rintro e w44 ⟨rfl, hb⟩
                refine ⟨_, rfl, ?_⟩
                replace BK625 := bb_ BK625 hb
                replace HB := bt_ HB hb
                (try clear hb)
                (try clear hb2)
                (try clear hk)
                (try clear hi)
                refine hK.out _ _ ⟨(blk_cell BK625.out 0).trans rfl, (blk_cell BK625.out 1).trans rfl, (blk_cell BK625.out 2).trans rfl, (blk_cell BK625.out 3).trans rfl, (clTr HB.out hw626_0), (clTr HB.out hw626_1), (clTr HB.out hw626_2), (clTr HB.out hw626_3)⟩ (fun hHeld => ?_)
                clear hK K
                refine norm_ (a' := ?_) ?_ ?_
                rotate_left
                ·show Act.put _ (some 58) _ = _
                 simp only [Act.put, lstS, lstZ, lstC, i64_w, i32_w]
                 rfl
                refine pu_ HT_ 7 (some 51) #[true, true, true, true, true, true, true, true, false, false, false, false, false] ?_
                refine pu_ HT_ 8 (some 59) #[true, true, true, true, true, true, true, true, true, false, false, false, false] ?_
                refine pu_ HT_ 9 (some 60) #[true, true, true, true, true, true, true, true, true, true, false, false, false] ?_
                refine one_ (i := 10) (N := some 12) #[true, true, true, true, true, true, true, true, true, true, true, false, false] rfl rfl (one_of HT_.out (by kernel_rfl)) (by decide) (fun K hK => ?_)
                refine box_step ?hg (N := 12) ?hd (cs := #[.int .i64 0, .int .i64 0, .int .i64 0, .bool false]) (t := 30) ?hr ?_; (case hd => rfl); (case hg => rfl); (case hr => first | (go_simp; done) | (go_simp; rfl))
                intro gb632 hg w45 hbox hb
                have BK632 := Aside0.mk (hbox)
                have GW632 := bs_ HB hg
                have GE632 := bs_ HB hg
                have NB625_632 := bm_ BK625 hg
                have NB632_625 := bn_ BK625 hg
                replace BK625 := bb_ BK625 hb
                replace HB := bt_ HB hb
                clear hb hbox hg
                refine hK.out _ _ ⟨(blk_cell BK625.out 0).trans rfl, (blk_cell BK625.out 1).trans rfl, (blk_cell BK625.out 2).trans rfl, (blk_cell BK625.out 3).trans rfl, (clTr HB.out hw626_0), (clTr HB.out hw626_1), (clTr HB.out hw626_2), (clTr HB.out hw626_3)⟩ (fun hHeld => ?_)
                clear hK K
                refine norm_ (a' := ?_) ?_ ?_
                rotate_left
                ·show Act.put _ (some 12) _ = _
                 simp only [Act.put, lstS, lstZ, lstC, i64_w, i32_w]
                 rfl
                exact norm_ (by simp only [putAll, Act.put, lstS, lstZ, lstC]) (hCont (gb632) _ ⟨hHeld, (bl_ BK625).out, (bl_ BK632).out, GW632.out, GE632.out, NB625_632.out, NB632_625.out, (bw_ HB).out⟩)
               ·skip
                refine box_step ?hg (N := 12) ?hd (cs := #[.int .i64 0, .int .i64 0, .int .i64 0, .bool false]) (t := 30) ?hr ?_; (case hd => rfl); (case hg => rfl); (case hr => first | (go_simp; done) | (go_simp; rfl))
                intro gb632 hg w44 hbox hb
                have BK632 := Aside0.mk (hbox)
                have GW632 := bs_ HB hg
                have GE632 := bs_ HB hg
                have NB625_632 := bm_ BK625 hg
                have NB632_625 := bn_ BK625 hg
                replace BK625 := bb_ BK625 hb
                replace HB := bt_ HB hb
                clear hb hbox hg
                refine hK.out _ _ ⟨(blk_cell BK625.out 0).trans rfl, (blk_cell BK625.out 1).trans rfl, (blk_cell BK625.out 2).trans rfl, (blk_cell BK625.out 3).trans rfl, (clTr HB.out hw626_0), (clTr HB.out hw626_1), (clTr HB.out hw626_2), (clTr HB.out hw626_3)⟩ (fun hHeld => ?_)
                clear hK K
                refine norm_ (a' := ?_) ?_ ?_
                rotate_left
                ·show Act.put _ (some 12) _ = _
                 simp only [Act.put, lstS, lstZ, lstC, i64_w, i32_w]
                 rfl
                refine one_ (i := 6) (N := some 58) #[true, true, true, true, true, true, true, false, false, false, true, false, false] rfl rfl (one_of HT_.out (by kernel_rfl)) (by decide) (fun K hK => ?_)
                refine goes_ Try.func35 (by kernel_rfl) rfl #[.int .i64 a0, .agg #[.int .i64 ((rd_T33 l1 x10_2).f0.f0), .int .i64 ((rd_T33 l1 x10_2).f0.f1), .int .i64 ((rd_T33 l1 x10_2).f1.f0), .int .i64 ((rd_T33 l1 x10_2).f1.f1)], .agg #[.int .i64 ((rd_T30 l2 (ji17)).f0.f0), .int .i64 ((rd_T30 l2 (ji17)).f0.f1), .int .i64 ((rd_T30 l2 (ji17)).f0.f2), .bool (!((rd_T30 l2 (ji17)).f1))]] (by rfl) rfl rfl (by (try simp only [List.map_toArray, List.map_cons, List.map_nil]); first | done | (simp only [hji17]; rfl) | rfl | (simp only [List.length_drop, List.length_take]; rfl)) ?_
                with_reducible refine (spec_l09Move.calls k2 a0 ((rd_T33 l1 x10_2).f0.f0) ((rd_T33 l1 x10_2).f0.f1) ((rd_T33 l1 x10_2).f1.f0) ((rd_T33 l1 x10_2).f1.f1) ((rd_T30 l2 (ji17)).f0.f0) ((rd_T30 l2 (ji17)).f0.f1) ((rd_T30 l2 (ji17)).f0.f2) (!((rd_T30 l2 (ji17)).f1)) t627 t628 t629 t630 true _ A21.out).mono ?_
                rintro e w45 ⟨rfl, hb⟩
                refine ⟨_, rfl, ?_⟩
                replace BK625 := bb_ BK625 hb
                replace BK632 := bb_ BK632 hb
                replace HB := bt_ HB hb
                (try clear hb)
                (try clear hb2)
                (try clear hk)
                (try clear hi)
                refine hK.out _ _ ⟨(blk_cell BK625.out 0).trans rfl, (blk_cell BK625.out 1).trans rfl, (blk_cell BK625.out 2).trans rfl, (blk_cell BK625.out 3).trans rfl, (clTr HB.out hw626_0), (clTr HB.out hw626_1), (clTr HB.out hw626_2), (clTr HB.out hw626_3)⟩ (fun hHeld => ?_)
                clear hK K
                refine norm_ (a' := ?_) ?_ ?_
                rotate_left
                ·show Act.put _ (some 58) _ = _
                 simp only [Act.put, lstS, lstZ, lstC, i64_w, i32_w]
                 rfl
                refine pu_ HT_ 7 (some 51) #[true, true, true, true, true, true, true, true, false, false, true, false, false] ?_
                refine pu_ HT_ 8 (some 59) #[true, true, true, true, true, true, true, true, true, false, true, false, false] ?_
                refine pu_ HT_ 9 (some 60) #[true, true, true, true, true, true, true, true, true, true, true, false, false] ?_
                exact norm_ (by simp only [putAll, Act.put, lstS, lstZ, lstC]) (hCont (gb632) _ ⟨hHeld, (bl_ BK625).out, (bl_ BK632).out, GW632.out, GE632.out, NB625_632.out, NB632_625.out, (bw_ HB).out⟩)
              rintro gb632 w46 ⟨hS_, h0_, h1_, h2_, h3_, h4_, h5_, h6_⟩
              have n0_ : Aside0 (w46.heap[gb625]? = some (.cells #[.int .i64 ((rd_T30 l2 (ji17)).f0.f0), .int .i64 ((rd_T30 l2 (ji17)).f0.f1), .int .i64 ((rd_T30 l2 (ji17)).f0.f2), .bool (!((rd_T30 l2 (ji17)).f1))] 30 (0, 0))) := ⟨h0_⟩
              have n1_ : Aside0 (w46.heap[gb632]? = some (.cells #[.int .i64 0, .int .i64 0, .int .i64 0, .bool false] 30 (0, 0))) := ⟨h1_⟩
              have n2_ : Aside0 (w.heap.size ≤ gb632) := ⟨h2_⟩
              have n3_ : Aside0 (w.heap.size ≤ gb632) := ⟨h3_⟩
              have n4_ : Aside0 (gb625 ≠ gb632) := ⟨h4_⟩
              have n5_ : Aside0 (gb632 ≠ gb625) := ⟨h5_⟩
              have n6_ : Aside0 (Below w.heap.size w w46) := ⟨h6_⟩
              clear BK625
              clear HB
              clear h0_ h1_ h2_ h3_ h4_ h5_ h6_
              have BK625 := n0_
              have BK632 := n1_
              have GW632 := n2_
              have GE632 := n3_
              have NB625_632 := n4_
              have NB632_625 := n5_
              have HB := n6_
              clear n0_ n1_ n2_ n3_ n4_ n5_ n6_
              have hHeld : w46.cell? ⟨gb625, 0, none⟩ = some (.int .i64 ((rd_T30 l2 (ji17)).f0.f0)) ∧ w46.cell? ⟨gb625, 1, none⟩ = some (.int .i64 ((rd_T30 l2 (ji17)).f0.f1)) ∧ w46.cell? ⟨gb625, 2, none⟩ = some (.int .i64 ((rd_T30 l2 (ji17)).f0.f2)) ∧ w46.cell? ⟨gb625, 3, none⟩ = some (.bool (!((rd_T30 l2 (ji17)).f1))) ∧ w46.cell? (ad626.add ((x10_2).toNat * 4)) = some (.int .i64 ((rd_T33 l1 x10_2).f0.f0)) ∧ w46.cell? ⟨(ad626.add ((x10_2).toNat * 4)).block, (ad626.add ((x10_2).toNat * 4)).off + 1, none⟩ = some (.int .i64 ((rd_T33 l1 x10_2).f0.f1)) ∧ w46.cell? ⟨(ad626.add ((x10_2).toNat * 4)).block, (ad626.add ((x10_2).toNat * 4)).off + 2, none⟩ = some (.int .i64 ((rd_T33 l1 x10_2).f1.f0)) ∧ w46.cell? ⟨(ad626.add ((x10_2).toNat * 4)).block, (ad626.add ((x10_2).toNat * 4)).off + 3, none⟩ = some (.int .i64 ((rd_T33 l1 x10_2).f1.f1)) := hS_
              refine norm_ (a' := ?_) ?_ ?_
              rotate_left
              ·simp only [putAll, Act.put, lstS, lstZ, lstC]
               rfl
              refine one_ (i := 11) (N := none) #[true, true, true, true, true, true, true, true, true, true, true, true, false] rfl rfl (one_of HT_.out (by kernel_rfl)) (by decide) (fun K hK => ?_)
              have hs47 : w46.cell? ⟨gb632, 0, none⟩ = some (.int .i64 0) := (blk_cell BK632.out 0).trans rfl
              have hfs47 := blk_frozen BK632.out 0
              have hns47_0 := NB625_632.out
              have hms47_0 := NB632_625.out
              have hs48 : w46.cell? ⟨gb632, 1, none⟩ = some (.int .i64 0) := (blk_cell BK632.out 1).trans rfl
              have hfs48 := blk_frozen BK632.out 1
              have hns48_0 := NB625_632.out
              have hms48_0 := NB632_625.out
              have hs49 : w46.cell? ⟨gb632, 2, none⟩ = some (.int .i64 0) := (blk_cell BK632.out 2).trans rfl
              have hfs49 := blk_frozen BK632.out 2
              have hns49_0 := NB625_632.out
              have hms49_0 := NB632_625.out
              have hs50 : w46.cell? ⟨gb632, 3, none⟩ = some (.bool false) := (blk_cell BK632.out 3).trans rfl
              have hfs50 := blk_frozen BK632.out 3
              have hns50_0 := NB625_632.out
              have hms50_0 := NB632_625.out
              refine skip_ (w1 := ?_) (by rfl) rfl ?_ ?_
              rotate_left
              ·go_simp
               rfl
              refine hK.out _ _ ⟨((cell_far (p := ⟨gb632, _, none⟩) NB625_632.out _).trans (((cell_far (p := ⟨gb632, _, none⟩) NB625_632.out _).trans (((cell_far (p := ⟨gb632, _, none⟩) NB625_632.out _).trans (((cell_far (p := ⟨gb632, _, none⟩) NB625_632.out _).trans (hHeld.1)))))))), ((cell_far (p := ⟨gb632, _, none⟩) NB625_632.out _).trans (((cell_far (p := ⟨gb632, _, none⟩) NB625_632.out _).trans (((cell_far (p := ⟨gb632, _, none⟩) NB625_632.out _).trans (((cell_far (p := ⟨gb632, _, none⟩) NB625_632.out _).trans (hHeld.2.1)))))))), ((cell_far (p := ⟨gb632, _, none⟩) NB625_632.out _).trans (((cell_far (p := ⟨gb632, _, none⟩) NB625_632.out _).trans (((cell_far (p := ⟨gb632, _, none⟩) NB625_632.out _).trans (((cell_far (p := ⟨gb632, _, none⟩) NB625_632.out _).trans (hHeld.2.2.1)))))))), ((cell_far (p := ⟨gb632, _, none⟩) NB625_632.out _).trans (((cell_far (p := ⟨gb632, _, none⟩) NB625_632.out _).trans (((cell_far (p := ⟨gb632, _, none⟩) NB625_632.out _).trans (((cell_far (p := ⟨gb632, _, none⟩) NB625_632.out _).trans (hHeld.2.2.2.1)))))))), ((cell_far (p := ⟨gb632, _, none⟩) (by first | exact Nat.ne_of_lt (Nat.lt_of_lt_of_le (by have := World.block_lt_of_cell? _ _ hw626_0; first | rwa [add_block] at this | exact this) GW632.out) | (rw [add_block]; exact Nat.ne_of_lt (Nat.lt_of_lt_of_le (by have := World.block_lt_of_cell? _ _ hw626_0; first | rwa [add_block] at this | exact this) GW632.out)) | (show (Addr.add _ _).block ≠ _; rw [add_block]; exact Nat.ne_of_lt (Nat.lt_of_lt_of_le (by have := World.block_lt_of_cell? _ _ hw626_0; first | rwa [add_block] at this | exact this) GW632.out)) | (dsimp only; exact Nat.ne_of_lt (Nat.lt_of_lt_of_le (by have := World.block_lt_of_cell? _ _ hw626_0; first | rwa [add_block] at this | exact this) GW632.out))) _).trans (((cell_far (p := ⟨gb632, _, none⟩) (by first | exact Nat.ne_of_lt (Nat.lt_of_lt_of_le (by have := World.block_lt_of_cell? _ _ hw626_0; first | rwa [add_block] at this | exact this) GW632.out) | (rw [add_block]; exact Nat.ne_of_lt (Nat.lt_of_lt_of_le (by have := World.block_lt_of_cell? _ _ hw626_0; first | rwa [add_block] at this | exact this) GW632.out)) | (show (Addr.add _ _).block ≠ _; rw [add_block]; exact Nat.ne_of_lt (Nat.lt_of_lt_of_le (by have := World.block_lt_of_cell? _ _ hw626_0; first | rwa [add_block] at this | exact this) GW632.out)) | (dsimp only; exact Nat.ne_of_lt (Nat.lt_of_lt_of_le (by have := World.block_lt_of_cell? _ _ hw626_0; first | rwa [add_block] at this | exact this) GW632.out))) _).trans (((cell_far (p := ⟨gb632, _, none⟩) (by first | exact Nat.ne_of_lt (Nat.lt_of_lt_of_le (by have := World.block_lt_of_cell? _ _ hw626_0; first | rwa [add_block] at this | exact this) GW632.out) | (rw [add_block]; exact Nat.ne_of_lt (Nat.lt_of_lt_of_le (by have := World.block_lt_of_cell? _ _ hw626_0; first | rwa [add_block] at this | exact this) GW632.out)) | (show (Addr.add _ _).block ≠ _; rw [add_block]; exact Nat.ne_of_lt (Nat.lt_of_lt_of_le (by have := World.block_lt_of_cell? _ _ hw626_0; first | rwa [add_block] at this | exact this) GW632.out)) | (dsimp only; exact Nat.ne_of_lt (Nat.lt_of_lt_of_le (by have := World.block_lt_of_cell? _ _ hw626_0; first | rwa [add_block] at this | exact this) GW632.out))) _).trans (((cell_far (p := ⟨gb632, _, none⟩) (by first | exact Nat.ne_of_lt (Nat.lt_of_lt_of_le (by have := World.block_lt_of_cell? _ _ hw626_0; first | rwa [add_block] at this | exact this) GW632.out) | (rw [add_block]; exact Nat.ne_of_lt (Nat.lt_of_lt_of_le (by have := World.block_lt_of_cell? _ _ hw626_0; first | rwa [add_block] at this | exact this) GW632.out)) | (show (Addr.add _ _).block ≠ _; rw [add_block]; exact Nat.ne_of_lt (Nat.lt_of_lt_of_le (by have := World.block_lt_of_cell? _ _ hw626_0; first | rwa [add_block] at this | exact this) GW632.out)) | (dsimp only; exact Nat.ne_of_lt (Nat.lt_of_lt_of_le (by have := World.block_lt_of_cell? _ _ hw626_0; first | rwa [add_block] at this | exact this) GW632.out))) _).trans (hHeld.2.2.2.2.1)))))))), ((cell_far (p := ⟨gb632, _, none⟩) (by first | exact Nat.ne_of_lt (Nat.lt_of_lt_of_le (by have := World.block_lt_of_cell? _ _ hw626_1; first | rwa [add_block] at this | exact this) GW632.out) | (rw [add_block]; exact Nat.ne_of_lt (Nat.lt_of_lt_of_le (by have := World.block_lt_of_cell? _ _ hw626_1; first | rwa [add_block] at this | exact this) GW632.out)) | (show (Addr.add _ _).block ≠ _; rw [add_block]; exact Nat.ne_of_lt (Nat.lt_of_lt_of_le (by have := World.block_lt_of_cell? _ _ hw626_1; first | rwa [add_block] at this | exact this) GW632.out)) | (dsimp only; exact Nat.ne_of_lt (Nat.lt_of_lt_of_le (by have := World.block_lt_of_cell? _ _ hw626_1; first | rwa [add_block] at this | exact this) GW632.out))) _).trans (((cell_far (p := ⟨gb632, _, none⟩) (by first | exact Nat.ne_of_lt (Nat.lt_of_lt_of_le (by have := World.block_lt_of_cell? _ _ hw626_1; first | rwa [add_block] at this | exact this) GW632.out) | (rw [add_block]; exact Nat.ne_of_lt (Nat.lt_of_lt_of_le (by have := World.block_lt_of_cell? _ _ hw626_1; first | rwa [add_block] at this | exact this) GW632.out)) | (show (Addr.add _ _).block ≠ _; rw [add_block]; exact Nat.ne_of_lt (Nat.lt_of_lt_of_le (by have := World.block_lt_of_cell? _ _ hw626_1; first | rwa [add_block] at this | exact this) GW632.out)) | (dsimp only; exact Nat.ne_of_lt (Nat.lt_of_lt_of_le (by have := World.block_lt_of_cell? _ _ hw626_1; first | rwa [add_block] at this | exact this) GW632.out))) _).trans (((cell_far (p := ⟨gb632, _, none⟩) (by first | exact Nat.ne_of_lt (Nat.lt_of_lt_of_le (by have := World.block_lt_of_cell? _ _ hw626_1; first | rwa [add_block] at this | exact this) GW632.out) | (rw [add_block]; exact Nat.ne_of_lt (Nat.lt_of_lt_of_le (by have := World.block_lt_of_cell? _ _ hw626_1; first | rwa [add_block] at this | exact this) GW632.out)) | (show (Addr.add _ _).block ≠ _; rw [add_block]; exact Nat.ne_of_lt (Nat.lt_of_lt_of_le (by have := World.block_lt_of_cell? _ _ hw626_1; first | rwa [add_block] at this | exact this) GW632.out)) | (dsimp only; exact Nat.ne_of_lt (Nat.lt_of_lt_of_le (by have := World.block_lt_of_cell? _ _ hw626_1; first | rwa [add_block] at this | exact this) GW632.out))) _).trans (((cell_far (p := ⟨gb632, _, none⟩) (by first | exact Nat.ne_of_lt (Nat.lt_of_lt_of_le (by have := World.block_lt_of_cell? _ _ hw626_1; first | rwa [add_block] at this | exact this) GW632.out) | (rw [add_block]; exact Nat.ne_of_lt (Nat.lt_of_lt_of_le (by have := World.block_lt_of_cell? _ _ hw626_1; first | rwa [add_block] at this | exact this) GW632.out)) | (show (Addr.add _ _).block ≠ _; rw [add_block]; exact Nat.ne_of_lt (Nat.lt_of_lt_of_le (by have := World.block_lt_of_cell? _ _ hw626_1; first | rwa [add_block] at this | exact this) GW632.out)) | (dsimp only; exact Nat.ne_of_lt (Nat.lt_of_lt_of_le (by have := World.block_lt_of_cell? _ _ hw626_1; first | rwa [add_block] at this | exact this) GW632.out))) _).trans (hHeld.2.2.2.2.2.1)))))))), ((cell_far (p := ⟨gb632, _, none⟩) (by first | exact Nat.ne_of_lt (Nat.lt_of_lt_of_le (by have := World.block_lt_of_cell? _ _ hw626_2; first | rwa [add_block] at this | exact this) GW632.out) | (rw [add_block]; exact Nat.ne_of_lt (Nat.lt_of_lt_of_le (by have := World.block_lt_of_cell? _ _ hw626_2; first | rwa [add_block] at this | exact this) GW632.out)) | (show (Addr.add _ _).block ≠ _; rw [add_block]; exact Nat.ne_of_lt (Nat.lt_of_lt_of_le (by have := World.block_lt_of_cell? _ _ hw626_2; first | rwa [add_block] at this | exact this) GW632.out)) | (dsimp only; exact Nat.ne_of_lt (Nat.lt_of_lt_of_le (by have := World.block_lt_of_cell? _ _ hw626_2; first | rwa [add_block] at this | exact this) GW632.out))) _).trans (((cell_far (p := ⟨gb632, _, none⟩) (by first | exact Nat.ne_of_lt (Nat.lt_of_lt_of_le (by have := World.block_lt_of_cell? _ _ hw626_2; first | rwa [add_block] at this | exact this) GW632.out) | (rw [add_block]; exact Nat.ne_of_lt (Nat.lt_of_lt_of_le (by have := World.block_lt_of_cell? _ _ hw626_2; first | rwa [add_block] at this | exact this) GW632.out)) | (show (Addr.add _ _).block ≠ _; rw [add_block]; exact Nat.ne_of_lt (Nat.lt_of_lt_of_le (by have := World.block_lt_of_cell? _ _ hw626_2; first | rwa [add_block] at this | exact this) GW632.out)) | (dsimp only; exact Nat.ne_of_lt (Nat.lt_of_lt_of_le (by have := World.block_lt_of_cell? _ _ hw626_2; first | rwa [add_block] at this | exact this) GW632.out))) _).trans (((cell_far (p := ⟨gb632, _, none⟩) (by first | exact Nat.ne_of_lt (Nat.lt_of_lt_of_le (by have := World.block_lt_of_cell? _ _ hw626_2; first | rwa [add_block] at this | exact this) GW632.out) | (rw [add_block]; exact Nat.ne_of_lt (Nat.lt_of_lt_of_le (by have := World.block_lt_of_cell? _ _ hw626_2; first | rwa [add_block] at this | exact this) GW632.out)) | (show (Addr.add _ _).block ≠ _; rw [add_block]; exact Nat.ne_of_lt (Nat.lt_of_lt_of_le (by have := World.block_lt_of_cell? _ _ hw626_2; first | rwa [add_block] at this | exact this) GW632.out)) | (dsimp only; exact Nat.ne_of_lt (Nat.lt_of_lt_of_le (by have := World.block_lt_of_cell? _ _ hw626_2; first | rwa [add_block] at this | exact this) GW632.out))) _).trans (((cell_far (p := ⟨gb632, _, none⟩) (by first | exact Nat.ne_of_lt (Nat.lt_of_lt_of_le (by have := World.block_lt_of_cell? _ _ hw626_2; first | rwa [add_block] at this | exact this) GW632.out) | (rw [add_block]; exact Nat.ne_of_lt (Nat.lt_of_lt_of_le (by have := World.block_lt_of_cell? _ _ hw626_2; first | rwa [add_block] at this | exact this) GW632.out)) | (show (Addr.add _ _).block ≠ _; rw [add_block]; exact Nat.ne_of_lt (Nat.lt_of_lt_of_le (by have := World.block_lt_of_cell? _ _ hw626_2; first | rwa [add_block] at this | exact this) GW632.out)) | (dsimp only; exact Nat.ne_of_lt (Nat.lt_of_lt_of_le (by have := World.block_lt_of_cell? _ _ hw626_2; first | rwa [add_block] at this | exact this) GW632.out))) _).trans (hHeld.2.2.2.2.2.2.1)))))))), ((cell_far (p := ⟨gb632, _, none⟩) (by first | exact Nat.ne_of_lt (Nat.lt_of_lt_of_le (by have := World.block_lt_of_cell? _ _ hw626_3; first | rwa [add_block] at this | exact this) GW632.out) | (rw [add_block]; exact Nat.ne_of_lt (Nat.lt_of_lt_of_le (by have := World.block_lt_of_cell? _ _ hw626_3; first | rwa [add_block] at this | exact this) GW632.out)) | (show (Addr.add _ _).block ≠ _; rw [add_block]; exact Nat.ne_of_lt (Nat.lt_of_lt_of_le (by have := World.block_lt_of_cell? _ _ hw626_3; first | rwa [add_block] at this | exact this) GW632.out)) | (dsimp only; exact Nat.ne_of_lt (Nat.lt_of_lt_of_le (by have := World.block_lt_of_cell? _ _ hw626_3; first | rwa [add_block] at this | exact this) GW632.out))) _).trans (((cell_far (p := ⟨gb632, _, none⟩) (by first | exact Nat.ne_of_lt (Nat.lt_of_lt_of_le (by have := World.block_lt_of_cell? _ _ hw626_3; first | rwa [add_block] at this | exact this) GW632.out) | (rw [add_block]; exact Nat.ne_of_lt (Nat.lt_of_lt_of_le (by have := World.block_lt_of_cell? _ _ hw626_3; first | rwa [add_block] at this | exact this) GW632.out)) | (show (Addr.add _ _).block ≠ _; rw [add_block]; exact Nat.ne_of_lt (Nat.lt_of_lt_of_le (by have := World.block_lt_of_cell? _ _ hw626_3; first | rwa [add_block] at this | exact this) GW632.out)) | (dsimp only; exact Nat.ne_of_lt (Nat.lt_of_lt_of_le (by have := World.block_lt_of_cell? _ _ hw626_3; first | rwa [add_block] at this | exact this) GW632.out))) _).trans (((cell_far (p := ⟨gb632, _, none⟩) (by first | exact Nat.ne_of_lt (Nat.lt_of_lt_of_le (by have := World.block_lt_of_cell? _ _ hw626_3; first | rwa [add_block] at this | exact this) GW632.out) | (rw [add_block]; exact Nat.ne_of_lt (Nat.lt_of_lt_of_le (by have := World.block_lt_of_cell? _ _ hw626_3; first | rwa [add_block] at this | exact this) GW632.out)) | (show (Addr.add _ _).block ≠ _; rw [add_block]; exact Nat.ne_of_lt (Nat.lt_of_lt_of_le (by have := World.block_lt_of_cell? _ _ hw626_3; first | rwa [add_block] at this | exact this) GW632.out)) | (dsimp only; exact Nat.ne_of_lt (Nat.lt_of_lt_of_le (by have := World.block_lt_of_cell? _ _ hw626_3; first | rwa [add_block] at this | exact this) GW632.out))) _).trans (((cell_far (p := ⟨gb632, _, none⟩) (by first | exact Nat.ne_of_lt (Nat.lt_of_lt_of_le (by have := World.block_lt_of_cell? _ _ hw626_3; first | rwa [add_block] at this | exact this) GW632.out) | (rw [add_block]; exact Nat.ne_of_lt (Nat.lt_of_lt_of_le (by have := World.block_lt_of_cell? _ _ hw626_3; first | rwa [add_block] at this | exact this) GW632.out)) | (show (Addr.add _ _).block ≠ _; rw [add_block]; exact Nat.ne_of_lt (Nat.lt_of_lt_of_le (by have := World.block_lt_of_cell? _ _ hw626_3; first | rwa [add_block] at this | exact this) GW632.out)) | (dsimp only; exact Nat.ne_of_lt (Nat.lt_of_lt_of_le (by have := World.block_lt_of_cell? _ _ hw626_3; first | rwa [add_block] at this | exact this) GW632.out))) _).trans (hHeld.2.2.2.2.2.2.2))))))))⟩ (fun hHeld => ?_)
              clear hK K
              refine pu_ HT_ 12 (some 13) #[true, true, true, true, true, true, true, true, true, true, true, true, true] ?_
              refine done_ (done_of HT_.out (by kernel_rfl)) ?_
              try go_wp2
              have n0_ : Aside0 (((((w46.setCell ⟨gb632, 0, none⟩ (.int .i64 t627)).setCell ⟨gb632, 1, none⟩ (.int .i64 t628)).setCell ⟨gb632, 2, none⟩ (.int .i64 t629)).setCell ⟨gb632, 3, none⟩ (.bool t630)).heap[gb625]? = some (.cells #[.int .i64 ((rd_T30 l2 (ji17)).f0.f0), .int .i64 ((rd_T30 l2 (ji17)).f0.f1), .int .i64 ((rd_T30 l2 (ji17)).f0.f2), .bool (!((rd_T30 l2 (ji17)).f1))] 30 (0, 0))) := ⟨by (with_reducible repeat first | apply blk_drewN | apply blk_drew | apply blk_alloc); refine blk_far ?_ NB625_632.out _; (with_reducible repeat first | apply blk_drewN | apply blk_drew | apply blk_alloc); refine blk_far ?_ NB625_632.out _; (with_reducible repeat first | apply blk_drewN | apply blk_drew | apply blk_alloc); refine blk_far ?_ NB625_632.out _; (with_reducible repeat first | apply blk_drewN | apply blk_drew | apply blk_alloc); refine blk_far ?_ NB625_632.out _; (with_reducible repeat first | apply blk_drewN | apply blk_drew | apply blk_alloc); exact BK625.out⟩
              have n1_ : Aside0 (((((w46.setCell ⟨gb632, 0, none⟩ (.int .i64 t627)).setCell ⟨gb632, 1, none⟩ (.int .i64 t628)).setCell ⟨gb632, 2, none⟩ (.int .i64 t629)).setCell ⟨gb632, 3, none⟩ (.bool t630)).heap[gb632]? = some (.cells #[.int .i64 t627, .int .i64 t628, .int .i64 t629, .bool t630] 30 (0, 0))) := ⟨by (with_reducible repeat first | apply blk_drewN | apply blk_drew | apply blk_alloc); refine blk_put (cs := #[.int .i64 t627, .int .i64 t628, .int .i64 t629, .bool false]) ?_ 3 _ rfl; (with_reducible repeat first | apply blk_drewN | apply blk_drew | apply blk_alloc); refine blk_put (cs := #[.int .i64 t627, .int .i64 t628, .int .i64 0, .bool false]) ?_ 2 _ rfl; (with_reducible repeat first | apply blk_drewN | apply blk_drew | apply blk_alloc); refine blk_put (cs := #[.int .i64 t627, .int .i64 0, .int .i64 0, .bool false]) ?_ 1 _ rfl; (with_reducible repeat first | apply blk_drewN | apply blk_drew | apply blk_alloc); refine blk_put (cs := #[.int .i64 0, .int .i64 0, .int .i64 0, .bool false]) ?_ 0 _ rfl; (with_reducible repeat first | apply blk_drewN | apply blk_drew | apply blk_alloc); exact BK632.out⟩
              have n2_ : Aside0 (Below w.heap.size w ((((w46.setCell ⟨gb632, 0, none⟩ (.int .i64 t627)).setCell ⟨gb632, 1, none⟩ (.int .i64 t628)).setCell ⟨gb632, 2, none⟩ (.int .i64 t629)).setCell ⟨gb632, 3, none⟩ (.bool t630))) := bw_ HB
              (try clear BK625)
              (try clear BK632)
              (try clear HB)
              generalize ((((w46.setCell ⟨gb632, 0, none⟩ (.int .i64 t627)).setCell ⟨gb632, 1, none⟩ (.int .i64 t628)).setCell ⟨gb632, 2, none⟩ (.int .i64 t629)).setCell ⟨gb632, 3, none⟩ (.bool t630)) = w51 at n0_ n1_ n2_ ⊢
              have BK625 := n0_
              have BK632 := n1_
              have HB := n2_
              clear n0_ n1_ n2_
              replace BK625 := Aside0.mk (blk_drew BK625.out)
              replace BK632 := Aside0.mk (blk_drew BK632.out)
              replace HB := Aside0.mk (below_drew1 HB.out)
              have p633 : 0 ≤ ((ji23) : Int) := of_decide_eq_true (by first | (with_reducible assumption) | assumption)
              have q633 : (ji23) < (l2.length : Int) := of_decide_eq_true (by first | (with_reducible assumption) | assumption)
              obtain ⟨ad633, e633, hx633_0, hx633_1, hx633_2, hx633_3⟩ := at_T30 HR2.out (ji23) p633 q633
              have hw633_3 := hx633_3
              have hw633_2 := hx633_2
              have hw633_1 := hx633_1
              have hw633_0 := hx633_0
              obtain rfl : ad624 = ad633 := (by injection e633)
              replace hx633_0 := clTr HB.out hx633_0
              replace hx633_1 := clTr HB.out hx633_1
              replace hx633_2 := clTr HB.out hx633_2
              replace hx633_3 := clTr HB.out hx633_3
              replace p633 := eq_true p633
              replace q633 := eq_true q633
              refine start_ (n := 8) (S := fun w' => w'.cell? ⟨gb632, 0, none⟩ = some (.int .i64 t627) ∧ w'.cell? ⟨gb632, 1, none⟩ = some (.int .i64 t628) ∧ w'.cell? ⟨gb632, 2, none⟩ = some (.int .i64 t629) ∧ w'.cell? ⟨gb632, 3, none⟩ = some (.bool t630) ∧ w'.cell? (ad624.add (((ji23)).toNat * 4)) = some (.int .i64 ((rd_T30 l2 (ji23)).f0.f0)) ∧ w'.cell? ⟨(ad624.add (((ji23)).toNat * 4)).block, (ad624.add (((ji23)).toNat * 4)).off + 1, none⟩ = some (.int .i64 ((rd_T30 l2 (ji23)).f0.f1)) ∧ w'.cell? ⟨(ad624.add (((ji23)).toNat * 4)).block, (ad624.add (((ji23)).toNat * 4)).off + 2, none⟩ = some (.int .i64 ((rd_T30 l2 (ji23)).f0.f2)) ∧ w'.cell? ⟨(ad624.add (((ji23)).toNat * 4)).block, (ad624.add (((ji23)).toNat * 4)).off + 3, none⟩ = some (.bool ((rd_T30 l2 (ji23)).f1))) (ds := []) #[false, false, false, false, false, false, false, false] (by kernel_rfl) rfl rfl ⟨(blk_cell BK632.out 0).trans rfl, (blk_cell BK632.out 1).trans rfl, (blk_cell BK632.out 2).trans rfl, (blk_cell BK632.out 3).trans rfl, (clTr HB.out hw633_0), (clTr HB.out hw633_1), (clTr HB.out hw633_2), (clTr HB.out hw633_3)⟩ (fun hHeld => ?_); refine with_tabW spec_l09Free.tab17 spec_l09Free.bits17 (fun HT_ HW_ => ?_)
              generalize w51.drew = w52 at BK625 BK632 HB hx633_0 hx633_1 hx633_2 hx633_3 hHeld ⊢
              refine pu_ HT_ 1 (some 64) #[false, true, false, false, false, false, false, false] ?_
              refine pu_ HT_ 2 (some 65) #[false, true, true, false, false, false, false, false] ?_
              refine pu_ HT_ 3 (some 66) #[false, true, true, true, false, false, false, false] ?_
              refine pu_ HT_ 4 (some 67) #[false, true, true, true, true, false, false, false] ?_
              refine pu_ HT_ 5 (some 68) #[false, true, true, true, true, true, false, false] ?_
              refine ta_ HT_ HW_ 0 (some 63) #[true, true, true, true, true, true, false, false] hHeld ?_ (hy := by rintro w' ⟨s0, s1, s2, s3, s4, s5, s6, s7⟩; go_simp; with_reducible rfl)
              refine ta_ HT_ HW_ 6 (some 69) #[true, true, true, true, true, true, true, false] hHeld ?_ (hy := by rintro w' ⟨s0, s1, s2, s3, s4, s5, s6, s7⟩; go_simp; with_reducible rfl)
              refine pu_ HT_ 7 (some 70) #[true, true, true, true, true, true, true, true] ?_
              refine done_ (done_of HT_.out (by kernel_rfl)) ?_
              try go_wp2
              go_roundg k2
              case measure => have := HK1.out; have := HK2.out; omega
              case rel => exact ⟨(wrap64 (x10_2 + 1)), (by first | rfl | (simp; done) | (simp [*]; done) | (simp [wrap64]; done)), H', ⟨by have := HK1.out; have := HK2.out; omega⟩, bw_ HB⟩
            ·rw [if_neg c25] at H
             exact absurd H (by simp)
           ·rw [if_neg c24] at H
            exact absurd H (by simp)
          ·replace c22 := Bool.eq_false_iff.mpr c22
           subst c22
           have H1 : (some (false, 3)) = some (r1, r2) := by rw [if_neg (show ¬ (false = true) by decide)] at H; exact H
           clear H
           have H := H1
           clear H1
           simp only [Option.some.injEq, Prod.mk.injEq] at H
           obtain ⟨rfl, rfl⟩ := H
           have p624 : 0 ≤ ((ji17) : Int) := of_decide_eq_true (by first | (with_reducible assumption) | assumption)
           have q624 : (ji17) < (l2.length : Int) := of_decide_eq_true (by first | (with_reducible assumption) | assumption)
           obtain ⟨ad624, e624, hx624_0, hx624_1, hx624_2, hx624_3⟩ := at_T30 HR2.out (ji17) p624 q624
           cases e624
           replace hx624_0 := clTr HB.out hx624_0
           replace hx624_1 := clTr HB.out hx624_1
           replace hx624_2 := clTr HB.out hx624_2
           replace hx624_3 := clTr HB.out hx624_3
           replace p624 := eq_true p624
           replace q624 := eq_true q624
           try go_wp2_with (first | ((with_reducible refine gate_dst (N := 11) rfl ?_); refine bx_ 11 #[.int .i64 0, .int .i64 0, .int .i64 0, .bool false] 30 ?_; intro gb625 hg w53 hbox hb; have BK625 := Aside0.mk (hbox); have GW625 := bs_ HB hg; have GE625 := bs_ HB hg; replace HB := bt_ HB hb; clear hb hbox hg; have hcz54_0 : w53.cell? ⟨gb625, 0, none⟩ = some (.int .i64 0) := (blk_cell BK625.out 0).trans rfl; have hcz54_1 : w53.cell? ⟨gb625, 1, none⟩ = some (.int .i64 0) := (blk_cell BK625.out 1).trans rfl; have hcz54_2 : w53.cell? ⟨gb625, 2, none⟩ = some (.int .i64 0) := (blk_cell BK625.out 2).trans rfl; have hcz54_3 : w53.cell? ⟨gb625, 3, none⟩ = some (.bool false) := (blk_cell BK625.out 3).trans rfl; have hfz54_0 := blk_frozen BK625.out 0; have hfz54_1 := blk_frozen BK625.out 1; have hfz54_2 := blk_frozen BK625.out 2; have hfz54_3 := blk_frozen BK625.out 3))
           have n0_ : Aside0 ((((((w53.setCell ⟨gb625, 0, none⟩ (.int .i64 ((rd_T30 l2 (ji17)).f0.f0))).setCell ⟨gb625, 1, none⟩ (.int .i64 ((rd_T30 l2 (ji17)).f0.f1))).setCell ⟨gb625, 2, none⟩ (.int .i64 ((rd_T30 l2 (ji17)).f0.f2))).setCell ⟨gb625, 3, none⟩ (.bool ((rd_T30 l2 (ji17)).f1))).setCell ⟨gb625, 3, none⟩ (.bool (!((rd_T30 l2 (ji17)).f1)))).heap[gb625]? = some (.cells #[.int .i64 ((rd_T30 l2 (ji17)).f0.f0), .int .i64 ((rd_T30 l2 (ji17)).f0.f1), .int .i64 ((rd_T30 l2 (ji17)).f0.f2), .bool (!((rd_T30 l2 (ji17)).f1))] 30 (0, 0))) := ⟨by (with_reducible repeat first | apply blk_drewN | apply blk_drew | apply blk_alloc); refine blk_put (cs := #[.int .i64 ((rd_T30 l2 (ji17)).f0.f0), .int .i64 ((rd_T30 l2 (ji17)).f0.f1), .int .i64 ((rd_T30 l2 (ji17)).f0.f2), .bool ((rd_T30 l2 (ji17)).f1)]) ?_ 3 _ rfl; (with_reducible repeat first | apply blk_drewN | apply blk_drew | apply blk_alloc); refine blk_put (cs := #[.int .i64 ((rd_T30 l2 (ji17)).f0.f0), .int .i64 ((rd_T30 l2 (ji17)).f0.f1), .int .i64 ((rd_T30 l2 (ji17)).f0.f2), .bool false]) ?_ 3 _ rfl; (with_reducible repeat first | apply blk_drewN | apply blk_drew | apply blk_alloc); refine blk_put (cs := #[.int .i64 ((rd_T30 l2 (ji17)).f0.f0), .int .i64 ((rd_T30 l2 (ji17)).f0.f1), .int .i64 0, .bool false]) ?_ 2 _ rfl; (with_reducible repeat first | apply blk_drewN | apply blk_drew | apply blk_alloc); refine blk_put (cs := #[.int .i64 ((rd_T30 l2 (ji17)).f0.f0), .int .i64 0, .int .i64 0, .bool false]) ?_ 1 _ rfl; (with_reducible repeat first | apply blk_drewN | apply blk_drew | apply blk_alloc); refine blk_put (cs := #[.int .i64 0, .int .i64 0, .int .i64 0, .bool false]) ?_ 0 _ rfl; (with_reducible repeat first | apply blk_drewN | apply blk_drew | apply blk_alloc); exact BK625.out⟩
           have n1_ : Aside0 (Below w.heap.size w (((((w53.setCell ⟨gb625, 0, none⟩ (.int .i64 ((rd_T30 l2 (ji17)).f0.f0))).setCell ⟨gb625, 1, none⟩ (.int .i64 ((rd_T30 l2 (ji17)).f0.f1))).setCell ⟨gb625, 2, none⟩ (.int .i64 ((rd_T30 l2 (ji17)).f0.f2))).setCell ⟨gb625, 3, none⟩ (.bool ((rd_T30 l2 (ji17)).f1))).setCell ⟨gb625, 3, none⟩ (.bool (!((rd_T30 l2 (ji17)).f1))))) := bw_ HB
           (try clear BK625)
           (try clear HB)
           generalize (((((w53.setCell ⟨gb625, 0, none⟩ (.int .i64 ((rd_T30 l2 (ji17)).f0.f0))).setCell ⟨gb625, 1, none⟩ (.int .i64 ((rd_T30 l2 (ji17)).f0.f1))).setCell ⟨gb625, 2, none⟩ (.int .i64 ((rd_T30 l2 (ji17)).f0.f2))).setCell ⟨gb625, 3, none⟩ (.bool ((rd_T30 l2 (ji17)).f1))).setCell ⟨gb625, 3, none⟩ (.bool (!((rd_T30 l2 (ji17)).f1)))) = w55 at n0_ n1_ ⊢
           have BK625 := n0_
           have HB := n1_
           clear n0_ n1_
           replace BK625 := Aside0.mk (blk_drew BK625.out)
           replace HB := Aside0.mk (below_drew1 HB.out)
           have p626 : 0 ≤ (x10_2 : Int) := of_decide_eq_true (by first | (with_reducible assumption) | assumption)
           have q626 : x10_2 < (l1.length : Int) := of_decide_eq_true (by first | (with_reducible assumption) | assumption)
           obtain ⟨ad626, e626, hx626_0, hx626_1, hx626_2, hx626_3⟩ := at_T33 HR1.out x10_2 p626 q626
           have hw626_3 := hx626_3
           have hw626_2 := hx626_2
           have hw626_1 := hx626_1
           have hw626_0 := hx626_0
           cases e626
           replace hx626_0 := clTr HB.out hx626_0
           replace hx626_1 := clTr HB.out hx626_1
           replace hx626_2 := clTr HB.out hx626_2
           replace hx626_3 := clTr HB.out hx626_3
           replace p626 := eq_true p626
           replace q626 := eq_true q626
           refine start_ (n := 13) (S := fun w' => w'.cell? ⟨gb625, 0, none⟩ = some (.int .i64 ((rd_T30 l2 (ji17)).f0.f0)) ∧ w'.cell? ⟨gb625, 1, none⟩ = some (.int .i64 ((rd_T30 l2 (ji17)).f0.f1)) ∧ w'.cell? ⟨gb625, 2, none⟩ = some (.int .i64 ((rd_T30 l2 (ji17)).f0.f2)) ∧ w'.cell? ⟨gb625, 3, none⟩ = some (.bool (!((rd_T30 l2 (ji17)).f1))) ∧ w'.cell? (ad626.add ((x10_2).toNat * 4)) = some (.int .i64 ((rd_T33 l1 x10_2).f0.f0)) ∧ w'.cell? ⟨(ad626.add ((x10_2).toNat * 4)).block, (ad626.add ((x10_2).toNat * 4)).off + 1, none⟩ = some (.int .i64 ((rd_T33 l1 x10_2).f0.f1)) ∧ w'.cell? ⟨(ad626.add ((x10_2).toNat * 4)).block, (ad626.add ((x10_2).toNat * 4)).off + 2, none⟩ = some (.int .i64 ((rd_T33 l1 x10_2).f1.f0)) ∧ w'.cell? ⟨(ad626.add ((x10_2).toNat * 4)).block, (ad626.add ((x10_2).toNat * 4)).off + 3, none⟩ = some (.int .i64 ((rd_T33 l1 x10_2).f1.f1))) (ds := []) #[false, false, false, false, false, false, false, false, false, false, false, false, false] (by kernel_rfl) rfl rfl ⟨(blk_cell BK625.out 0).trans rfl, (blk_cell BK625.out 1).trans rfl, (blk_cell BK625.out 2).trans rfl, (blk_cell BK625.out 3).trans rfl, (clTr HB.out hw626_0), (clTr HB.out hw626_1), (clTr HB.out hw626_2), (clTr HB.out hw626_3)⟩ (fun hHeld => ?_); refine with_tabW spec_l09Free.tab14 spec_l09Free.bits14 (fun HT_ HW_ => ?_)
           generalize w55.drew = w56 at BK625 HB hx626_0 hx626_1 hx626_2 hx626_3 hHeld ⊢
           refine pu_ HT_ 0 (some 52) #[true, false, false, false, false, false, false, false, false, false, false, false, false] ?_
           refine pu_ HT_ 1 (some 53) #[true, true, false, false, false, false, false, false, false, false, false, false, false] ?_
           refine pu_ HT_ 2 (some 54) #[true, true, true, false, false, false, false, false, false, false, false, false, false] ?_
           refine pu_ HT_ 3 (some 55) #[true, true, true, true, false, false, false, false, false, false, false, false, false] ?_
           refine ta_ HT_ HW_ 4 (some 56) #[true, true, true, true, true, false, false, false, false, false, false, false, false] hHeld ?_ (hy := by rintro w' ⟨s0, s1, s2, s3, s4, s5, s6, s7⟩; go_simp; with_reducible rfl)
           refine ta_ HT_ HW_ 5 (some 57) #[true, true, true, true, true, true, false, false, false, false, false, false, false] hHeld ?_ (hy := by rintro w' ⟨s0, s1, s2, s3, s4, s5, s6, s7⟩; go_simp; with_reducible rfl)
           refine join_ (σ := Nat) 2 #[true, true, true, true, true, true, true, true, true, true, true, false, false] (fun s_ => [(58, .tuple #[.agg #[.int .i64 t627, .int .i64 t628, .int .i64 t629, .bool t630], .bool false]), (12, .pointer (some ⟨s_, 0, none⟩)), (51, .tuple #[.agg #[.int .i64 t627, .int .i64 t628, .int .i64 t629, .bool t630], .bool false]), (59, .agg #[.int .i64 t627, .int .i64 t628, .int .i64 t629, .bool t630]), (60, .bool false)]) (fun s_ w' => (w'.cell? ⟨gb625, 0, none⟩ = some (.int .i64 ((rd_T30 l2 (ji17)).f0.f0)) ∧ w'.cell? ⟨gb625, 1, none⟩ = some (.int .i64 ((rd_T30 l2 (ji17)).f0.f1)) ∧ w'.cell? ⟨gb625, 2, none⟩ = some (.int .i64 ((rd_T30 l2 (ji17)).f0.f2)) ∧ w'.cell? ⟨gb625, 3, none⟩ = some (.bool (!((rd_T30 l2 (ji17)).f1))) ∧ w'.cell? (ad626.add ((x10_2).toNat * 4)) = some (.int .i64 ((rd_T33 l1 x10_2).f0.f0)) ∧ w'.cell? ⟨(ad626.add ((x10_2).toNat * 4)).block, (ad626.add ((x10_2).toNat * 4)).off + 1, none⟩ = some (.int .i64 ((rd_T33 l1 x10_2).f0.f1)) ∧ w'.cell? ⟨(ad626.add ((x10_2).toNat * 4)).block, (ad626.add ((x10_2).toNat * 4)).off + 2, none⟩ = some (.int .i64 ((rd_T33 l1 x10_2).f1.f0)) ∧ w'.cell? ⟨(ad626.add ((x10_2).toNat * 4)).block, (ad626.add ((x10_2).toNat * 4)).off + 3, none⟩ = some (.int .i64 ((rd_T33 l1 x10_2).f1.f1))) ∧ (w'.heap[gb625]? = some (.cells #[.int .i64 ((rd_T30 l2 (ji17)).f0.f0), .int .i64 ((rd_T30 l2 (ji17)).f0.f1), .int .i64 ((rd_T30 l2 (ji17)).f0.f2), .bool (!((rd_T30 l2 (ji17)).f1))] 30 (0, 0))) ∧ (w'.heap[s_]? = some (.cells #[.int .i64 0, .int .i64 0, .int .i64 0, .bool false] 30 (0, 0))) ∧ (w.heap.size ≤ s_) ∧ (w.heap.size ≤ s_) ∧ (gb625 ≠ s_) ∧ (s_ ≠ gb625) ∧ (Below w.heap.size w w')) ?_ ?_
           rotate_left
           ·intro hCont
            refine two_ (i := 6) (j := 10) (Ni := some 58) (Nj := some 12) #[true, true, true, true, true, true, true, false, false, false, false, false, false] #[true, true, true, true, true, true, false, false, false, false, true, false, false] rfl rfl rfl rfl (two_of HT_.out (by kernel_rfl)) (by decide) (by decide) (fun K hK => ?_) (fun K hK => ?_)
            ·skip
             refine goes_ Try.func35 (by kernel_rfl) rfl #[.int .i64 a0, .agg #[.int .i64 ((rd_T33 l1 x10_2).f0.f0), .int .i64 ((rd_T33 l1 x10_2).f0.f1), .int .i64 ((rd_T33 l1 x10_2).f1.f0), .int .i64 ((rd_T33 l1 x10_2).f1.f1)], .agg #[.int .i64 ((rd_T30 l2 (ji17)).f0.f0), .int .i64 ((rd_T30 l2 (ji17)).f0.f1), .int .i64 ((rd_T30 l2 (ji17)).f0.f2), .bool (!((rd_T30 l2 (ji17)).f1))]] (by rfl) rfl rfl (by (try simp only [List.map_toArray, List.map_cons, List.map_nil]); first | done | (simp only [hji17]; rfl) | rfl | (simp only [List.length_drop, List.length_take]; rfl)) ?_
             with_reducible refine (spec_l09Move.calls k2 a0 ((rd_T33 l1 x10_2).f0.f0) ((rd_T33 l1 x10_2).f0.f1) ((rd_T33 l1 x10_2).f1.f0) ((rd_T33 l1 x10_2).f1.f1) ((rd_T30 l2 (ji17)).f0.f0) ((rd_T30 l2 (ji17)).f0.f1) ((rd_T30 l2 (ji17)).f0.f2) (!((rd_T30 l2 (ji17)).f1)) t627 t628 t629 t630 false _ A21.out).mono ?_
             rintro e w57 ⟨rfl, hb⟩
             refine ⟨_, rfl, ?_⟩
             replace BK625 := bb_ BK625 hb
             replace HB := bt_ HB hb
             (try clear hb)
             (try clear hb2)
             (try clear hk)
             (try clear hi)
             refine hK.out _ _ ⟨(blk_cell BK625.out 0).trans rfl, (blk_cell BK625.out 1).trans rfl, (blk_cell BK625.out 2).trans rfl, (blk_cell BK625.out 3).trans rfl, (clTr HB.out hw626_0), (clTr HB.out hw626_1), (clTr HB.out hw626_2), (clTr HB.out hw626_3)⟩ (fun hHeld => ?_)
             clear hK K
             refine norm_ (a' := ?_) ?_ ?_
             rotate_left
             ·show Act.put _ (some 58) _ = _
              simp only [Act.put, lstS, lstZ, lstC, i64_w, i32_w]
              rfl
             refine pu_ HT_ 7 (some 51) #[true, true, true, true, true, true, true, true, false, false, false, false, false] ?_
             refine pu_ HT_ 8 (some 59) #[true, true, true, true, true, true, true, true, true, false, false, false, false] ?_
             refine pu_ HT_ 9 (some 60) #[true, true, true, true, true, true, true, true, true, true, false, false, false] ?_
             refine one_ (i := 10) (N := some 12) #[true, true, true, true, true, true, true, true, true, true, true, false, false] rfl rfl (one_of HT_.out (by kernel_rfl)) (by decide) (fun K hK => ?_)
             refine box_step ?hg (N := 12) ?hd (cs := #[.int .i64 0, .int .i64 0, .int .i64 0, .bool false]) (t := 30) ?hr ?_; (case hd => rfl); (case hg => rfl); (case hr => first | (go_simp; done) | (go_simp; rfl))
             intro gb632 hg w58 hbox hb
             have BK632 := Aside0.mk (hbox)
             have GW632 := bs_ HB hg
             have GE632 := bs_ HB hg
             have NB625_632 := bm_ BK625 hg
             have NB632_625 := bn_ BK625 hg
             replace BK625 := bb_ BK625 hb
             replace HB := bt_ HB hb
             clear hb hbox hg
             refine hK.out _ _ ⟨(blk_cell BK625.out 0).trans rfl, (blk_cell BK625.out 1).trans rfl, (blk_cell BK625.out 2).trans rfl, (blk_cell BK625.out 3).trans rfl, (clTr HB.out hw626_0), (clTr HB.out hw626_1), (clTr HB.out hw626_2), (clTr HB.out hw626_3)⟩ (fun hHeld => ?_)
             clear hK K
             refine norm_ (a' := ?_) ?_ ?_
             rotate_left
             ·show Act.put _ (some 12) _ = _
              simp only [Act.put, lstS, lstZ, lstC, i64_w, i32_w]
              rfl
             exact norm_ (by simp only [putAll, Act.put, lstS, lstZ, lstC]) (hCont (gb632) _ ⟨hHeld, (bl_ BK625).out, (bl_ BK632).out, GW632.out, GE632.out, NB625_632.out, NB632_625.out, (bw_ HB).out⟩)
            ·skip
             refine box_step ?hg (N := 12) ?hd (cs := #[.int .i64 0, .int .i64 0, .int .i64 0, .bool false]) (t := 30) ?hr ?_; (case hd => rfl); (case hg => rfl); (case hr => first | (go_simp; done) | (go_simp; rfl))
             intro gb632 hg w57 hbox hb
             have BK632 := Aside0.mk (hbox)
             have GW632 := bs_ HB hg
             have GE632 := bs_ HB hg
             have NB625_632 := bm_ BK625 hg
             have NB632_625 := bn_ BK625 hg
             replace BK625 := bb_ BK625 hb
             replace HB := bt_ HB hb
             clear hb hbox hg
             refine hK.out _ _ ⟨(blk_cell BK625.out 0).trans rfl, (blk_cell BK625.out 1).trans rfl, (blk_cell BK625.out 2).trans rfl, (blk_cell BK625.out 3).trans rfl, (clTr HB.out hw626_0), (clTr HB.out hw626_1), (clTr HB.out hw626_2), (clTr HB.out hw626_3)⟩ (fun hHeld => ?_)
             clear hK K
             refine norm_ (a' := ?_) ?_ ?_
             rotate_left
             ·show Act.put _ (some 12) _ = _
              simp only [Act.put, lstS, lstZ, lstC, i64_w, i32_w]
              rfl
             refine one_ (i := 6) (N := some 58) #[true, true, true, true, true, true, true, false, false, false, true, false, false] rfl rfl (one_of HT_.out (by kernel_rfl)) (by decide) (fun K hK => ?_)
             refine goes_ Try.func35 (by kernel_rfl) rfl #[.int .i64 a0, .agg #[.int .i64 ((rd_T33 l1 x10_2).f0.f0), .int .i64 ((rd_T33 l1 x10_2).f0.f1), .int .i64 ((rd_T33 l1 x10_2).f1.f0), .int .i64 ((rd_T33 l1 x10_2).f1.f1)], .agg #[.int .i64 ((rd_T30 l2 (ji17)).f0.f0), .int .i64 ((rd_T30 l2 (ji17)).f0.f1), .int .i64 ((rd_T30 l2 (ji17)).f0.f2), .bool (!((rd_T30 l2 (ji17)).f1))]] (by rfl) rfl rfl (by (try simp only [List.map_toArray, List.map_cons, List.map_nil]); first | done | (simp only [hji17]; rfl) | rfl | (simp only [List.length_drop, List.length_take]; rfl)) ?_
             with_reducible refine (spec_l09Move.calls k2 a0 ((rd_T33 l1 x10_2).f0.f0) ((rd_T33 l1 x10_2).f0.f1) ((rd_T33 l1 x10_2).f1.f0) ((rd_T33 l1 x10_2).f1.f1) ((rd_T30 l2 (ji17)).f0.f0) ((rd_T30 l2 (ji17)).f0.f1) ((rd_T30 l2 (ji17)).f0.f2) (!((rd_T30 l2 (ji17)).f1)) t627 t628 t629 t630 false _ A21.out).mono ?_
             rintro e w58 ⟨rfl, hb⟩
             refine ⟨_, rfl, ?_⟩
             replace BK625 := bb_ BK625 hb
             replace BK632 := bb_ BK632 hb
             replace HB := bt_ HB hb
             (try clear hb)
             (try clear hb2)
             (try clear hk)
             (try clear hi)
             refine hK.out _ _ ⟨(blk_cell BK625.out 0).trans rfl, (blk_cell BK625.out 1).trans rfl, (blk_cell BK625.out 2).trans rfl, (blk_cell BK625.out 3).trans rfl, (clTr HB.out hw626_0), (clTr HB.out hw626_1), (clTr HB.out hw626_2), (clTr HB.out hw626_3)⟩ (fun hHeld => ?_)
             clear hK K
             refine norm_ (a' := ?_) ?_ ?_
             rotate_left
             ·show Act.put _ (some 58) _ = _
              simp only [Act.put, lstS, lstZ, lstC, i64_w, i32_w]
              rfl
             refine pu_ HT_ 7 (some 51) #[true, true, true, true, true, true, true, true, false, false, true, false, false] ?_
             refine pu_ HT_ 8 (some 59) #[true, true, true, true, true, true, true, true, true, false, true, false, false] ?_
             refine pu_ HT_ 9 (some 60) #[true, true, true, true, true, true, true, true, true, true, true, false, false] ?_
             exact norm_ (by simp only [putAll, Act.put, lstS, lstZ, lstC]) (hCont (gb632) _ ⟨hHeld, (bl_ BK625).out, (bl_ BK632).out, GW632.out, GE632.out, NB625_632.out, NB632_625.out, (bw_ HB).out⟩)
           rintro gb632 w59 ⟨hS_, h0_, h1_, h2_, h3_, h4_, h5_, h6_⟩
           have n0_ : Aside0 (w59.heap[gb625]? = some (.cells #[.int .i64 ((rd_T30 l2 (ji17)).f0.f0), .int .i64 ((rd_T30 l2 (ji17)).f0.f1), .int .i64 ((rd_T30 l2 (ji17)).f0.f2), .bool (!((rd_T30 l2 (ji17)).f1))] 30 (0, 0))) := ⟨h0_⟩
           have n1_ : Aside0 (w59.heap[gb632]? = some (.cells #[.int .i64 0, .int .i64 0, .int .i64 0, .bool false] 30 (0, 0))) := ⟨h1_⟩
           have n2_ : Aside0 (w.heap.size ≤ gb632) := ⟨h2_⟩
           have n3_ : Aside0 (w.heap.size ≤ gb632) := ⟨h3_⟩
           have n4_ : Aside0 (gb625 ≠ gb632) := ⟨h4_⟩
           have n5_ : Aside0 (gb632 ≠ gb625) := ⟨h5_⟩
           have n6_ : Aside0 (Below w.heap.size w w59) := ⟨h6_⟩
           clear BK625
           clear HB
           clear h0_ h1_ h2_ h3_ h4_ h5_ h6_
           have BK625 := n0_
           have BK632 := n1_
           have GW632 := n2_
           have GE632 := n3_
           have NB625_632 := n4_
           have NB632_625 := n5_
           have HB := n6_
           clear n0_ n1_ n2_ n3_ n4_ n5_ n6_
           have hHeld : w59.cell? ⟨gb625, 0, none⟩ = some (.int .i64 ((rd_T30 l2 (ji17)).f0.f0)) ∧ w59.cell? ⟨gb625, 1, none⟩ = some (.int .i64 ((rd_T30 l2 (ji17)).f0.f1)) ∧ w59.cell? ⟨gb625, 2, none⟩ = some (.int .i64 ((rd_T30 l2 (ji17)).f0.f2)) ∧ w59.cell? ⟨gb625, 3, none⟩ = some (.bool (!((rd_T30 l2 (ji17)).f1))) ∧ w59.cell? (ad626.add ((x10_2).toNat * 4)) = some (.int .i64 ((rd_T33 l1 x10_2).f0.f0)) ∧ w59.cell? ⟨(ad626.add ((x10_2).toNat * 4)).block, (ad626.add ((x10_2).toNat * 4)).off + 1, none⟩ = some (.int .i64 ((rd_T33 l1 x10_2).f0.f1)) ∧ w59.cell? ⟨(ad626.add ((x10_2).toNat * 4)).block, (ad626.add ((x10_2).toNat * 4)).off + 2, none⟩ = some (.int .i64 ((rd_T33 l1 x10_2).f1.f0)) ∧ w59.cell? ⟨(ad626.add ((x10_2).toNat * 4)).block, (ad626.add ((x10_2).toNat * 4)).off + 3, none⟩ = some (.int .i64 ((rd_T33 l1 x10_2).f1.f1)) := hS_
           refine norm_ (a' := ?_) ?_ ?_
           rotate_left
           ·simp only [putAll, Act.put, lstS, lstZ, lstC]
            rfl
           refine one_ (i := 11) (N := none) #[true, true, true, true, true, true, true, true, true, true, true, true, false] rfl rfl (one_of HT_.out (by kernel_rfl)) (by decide) (fun K hK => ?_)
           have hs60 : w59.cell? ⟨gb632, 0, none⟩ = some (.int .i64 0) := (blk_cell BK632.out 0).trans rfl
           have hfs60 := blk_frozen BK632.out 0
           have hns60_0 := NB625_632.out
           have hms60_0 := NB632_625.out
           have hs61 : w59.cell? ⟨gb632, 1, none⟩ = some (.int .i64 0) := (blk_cell BK632.out 1).trans rfl
           have hfs61 := blk_frozen BK632.out 1
           have hns61_0 := NB625_632.out
           have hms61_0 := NB632_625.out
           have hs62 : w59.cell? ⟨gb632, 2, none⟩ = some (.int .i64 0) := (blk_cell BK632.out 2).trans rfl
           have hfs62 := blk_frozen BK632.out 2
           have hns62_0 := NB625_632.out
           have hms62_0 := NB632_625.out
           have hs63 : w59.cell? ⟨gb632, 3, none⟩ = some (.bool false) := (blk_cell BK632.out 3).trans rfl
           have hfs63 := blk_frozen BK632.out 3
           have hns63_0 := NB625_632.out
           have hms63_0 := NB632_625.out
           refine skip_ (w1 := ?_) (by rfl) rfl ?_ ?_
           rotate_left
           ·go_simp
            rfl
           refine hK.out _ _ ⟨((cell_far (p := ⟨gb632, _, none⟩) NB625_632.out _).trans (((cell_far (p := ⟨gb632, _, none⟩) NB625_632.out _).trans (((cell_far (p := ⟨gb632, _, none⟩) NB625_632.out _).trans (((cell_far (p := ⟨gb632, _, none⟩) NB625_632.out _).trans (hHeld.1)))))))), ((cell_far (p := ⟨gb632, _, none⟩) NB625_632.out _).trans (((cell_far (p := ⟨gb632, _, none⟩) NB625_632.out _).trans (((cell_far (p := ⟨gb632, _, none⟩) NB625_632.out _).trans (((cell_far (p := ⟨gb632, _, none⟩) NB625_632.out _).trans (hHeld.2.1)))))))), ((cell_far (p := ⟨gb632, _, none⟩) NB625_632.out _).trans (((cell_far (p := ⟨gb632, _, none⟩) NB625_632.out _).trans (((cell_far (p := ⟨gb632, _, none⟩) NB625_632.out _).trans (((cell_far (p := ⟨gb632, _, none⟩) NB625_632.out _).trans (hHeld.2.2.1)))))))), ((cell_far (p := ⟨gb632, _, none⟩) NB625_632.out _).trans (((cell_far (p := ⟨gb632, _, none⟩) NB625_632.out _).trans (((cell_far (p := ⟨gb632, _, none⟩) NB625_632.out _).trans (((cell_far (p := ⟨gb632, _, none⟩) NB625_632.out _).trans (hHeld.2.2.2.1)))))))), ((cell_far (p := ⟨gb632, _, none⟩) (by first | exact Nat.ne_of_lt (Nat.lt_of_lt_of_le (by have := World.block_lt_of_cell? _ _ hw626_0; first | rwa [add_block] at this | exact this) GW632.out) | (rw [add_block]; exact Nat.ne_of_lt (Nat.lt_of_lt_of_le (by have := World.block_lt_of_cell? _ _ hw626_0; first | rwa [add_block] at this | exact this) GW632.out)) | (show (Addr.add _ _).block ≠ _; rw [add_block]; exact Nat.ne_of_lt (Nat.lt_of_lt_of_le (by have := World.block_lt_of_cell? _ _ hw626_0; first | rwa [add_block] at this | exact this) GW632.out)) | (dsimp only; exact Nat.ne_of_lt (Nat.lt_of_lt_of_le (by have := World.block_lt_of_cell? _ _ hw626_0; first | rwa [add_block] at this | exact this) GW632.out))) _).trans (((cell_far (p := ⟨gb632, _, none⟩) (by first | exact Nat.ne_of_lt (Nat.lt_of_lt_of_le (by have := World.block_lt_of_cell? _ _ hw626_0; first | rwa [add_block] at this | exact this) GW632.out) | (rw [add_block]; exact Nat.ne_of_lt (Nat.lt_of_lt_of_le (by have := World.block_lt_of_cell? _ _ hw626_0; first | rwa [add_block] at this | exact this) GW632.out)) | (show (Addr.add _ _).block ≠ _; rw [add_block]; exact Nat.ne_of_lt (Nat.lt_of_lt_of_le (by have := World.block_lt_of_cell? _ _ hw626_0; first | rwa [add_block] at this | exact this) GW632.out)) | (dsimp only; exact Nat.ne_of_lt (Nat.lt_of_lt_of_le (by have := World.block_lt_of_cell? _ _ hw626_0; first | rwa [add_block] at this | exact this) GW632.out))) _).trans (((cell_far (p := ⟨gb632, _, none⟩) (by first | exact Nat.ne_of_lt (Nat.lt_of_lt_of_le (by have := World.block_lt_of_cell? _ _ hw626_0; first | rwa [add_block] at this | exact this) GW632.out) | (rw [add_block]; exact Nat.ne_of_lt (Nat.lt_of_lt_of_le (by have := World.block_lt_of_cell? _ _ hw626_0; first | rwa [add_block] at this | exact this) GW632.out)) | (show (Addr.add _ _).block ≠ _; rw [add_block]; exact Nat.ne_of_lt (Nat.lt_of_lt_of_le (by have := World.block_lt_of_cell? _ _ hw626_0; first | rwa [add_block] at this | exact this) GW632.out)) | (dsimp only; exact Nat.ne_of_lt (Nat.lt_of_lt_of_le (by have := World.block_lt_of_cell? _ _ hw626_0; first | rwa [add_block] at this | exact this) GW632.out))) _).trans (((cell_far (p := ⟨gb632, _, none⟩) (by first | exact Nat.ne_of_lt (Nat.lt_of_lt_of_le (by have := World.block_lt_of_cell? _ _ hw626_0; first | rwa [add_block] at this | exact this) GW632.out) | (rw [add_block]; exact Nat.ne_of_lt (Nat.lt_of_lt_of_le (by have := World.block_lt_of_cell? _ _ hw626_0; first | rwa [add_block] at this | exact this) GW632.out)) | (show (Addr.add _ _).block ≠ _; rw [add_block]; exact Nat.ne_of_lt (Nat.lt_of_lt_of_le (by have := World.block_lt_of_cell? _ _ hw626_0; first | rwa [add_block] at this | exact this) GW632.out)) | (dsimp only; exact Nat.ne_of_lt (Nat.lt_of_lt_of_le (by have := World.block_lt_of_cell? _ _ hw626_0; first | rwa [add_block] at this | exact this) GW632.out))) _).trans (hHeld.2.2.2.2.1)))))))), ((cell_far (p := ⟨gb632, _, none⟩) (by first | exact Nat.ne_of_lt (Nat.lt_of_lt_of_le (by have := World.block_lt_of_cell? _ _ hw626_1; first | rwa [add_block] at this | exact this) GW632.out) | (rw [add_block]; exact Nat.ne_of_lt (Nat.lt_of_lt_of_le (by have := World.block_lt_of_cell? _ _ hw626_1; first | rwa [add_block] at this | exact this) GW632.out)) | (show (Addr.add _ _).block ≠ _; rw [add_block]; exact Nat.ne_of_lt (Nat.lt_of_lt_of_le (by have := World.block_lt_of_cell? _ _ hw626_1; first | rwa [add_block] at this | exact this) GW632.out)) | (dsimp only; exact Nat.ne_of_lt (Nat.lt_of_lt_of_le (by have := World.block_lt_of_cell? _ _ hw626_1; first | rwa [add_block] at this | exact this) GW632.out))) _).trans (((cell_far (p := ⟨gb632, _, none⟩) (by first | exact Nat.ne_of_lt (Nat.lt_of_lt_of_le (by have := World.block_lt_of_cell? _ _ hw626_1; first | rwa [add_block] at this | exact this) GW632.out) | (rw [add_block]; exact Nat.ne_of_lt (Nat.lt_of_lt_of_le (by have := World.block_lt_of_cell? _ _ hw626_1; first | rwa [add_block] at this | exact this) GW632.out)) | (show (Addr.add _ _).block ≠ _; rw [add_block]; exact Nat.ne_of_lt (Nat.lt_of_lt_of_le (by have := World.block_lt_of_cell? _ _ hw626_1; first | rwa [add_block] at this | exact this) GW632.out)) | (dsimp only; exact Nat.ne_of_lt (Nat.lt_of_lt_of_le (by have := World.block_lt_of_cell? _ _ hw626_1; first | rwa [add_block] at this | exact this) GW632.out))) _).trans (((cell_far (p := ⟨gb632, _, none⟩) (by first | exact Nat.ne_of_lt (Nat.lt_of_lt_of_le (by have := World.block_lt_of_cell? _ _ hw626_1; first | rwa [add_block] at this | exact this) GW632.out) | (rw [add_block]; exact Nat.ne_of_lt (Nat.lt_of_lt_of_le (by have := World.block_lt_of_cell? _ _ hw626_1; first | rwa [add_block] at this | exact this) GW632.out)) | (show (Addr.add _ _).block ≠ _; rw [add_block]; exact Nat.ne_of_lt (Nat.lt_of_lt_of_le (by have := World.block_lt_of_cell? _ _ hw626_1; first | rwa [add_block] at this | exact this) GW632.out)) | (dsimp only; exact Nat.ne_of_lt (Nat.lt_of_lt_of_le (by have := World.block_lt_of_cell? _ _ hw626_1; first | rwa [add_block] at this | exact this) GW632.out))) _).trans (((cell_far (p := ⟨gb632, _, none⟩) (by first | exact Nat.ne_of_lt (Nat.lt_of_lt_of_le (by have := World.block_lt_of_cell? _ _ hw626_1; first | rwa [add_block] at this | exact this) GW632.out) | (rw [add_block]; exact Nat.ne_of_lt (Nat.lt_of_lt_of_le (by have := World.block_lt_of_cell? _ _ hw626_1; first | rwa [add_block] at this | exact this) GW632.out)) | (show (Addr.add _ _).block ≠ _; rw [add_block]; exact Nat.ne_of_lt (Nat.lt_of_lt_of_le (by have := World.block_lt_of_cell? _ _ hw626_1; first | rwa [add_block] at this | exact this) GW632.out)) | (dsimp only; exact Nat.ne_of_lt (Nat.lt_of_lt_of_le (by have := World.block_lt_of_cell? _ _ hw626_1; first | rwa [add_block] at this | exact this) GW632.out))) _).trans (hHeld.2.2.2.2.2.1)))))))), ((cell_far (p := ⟨gb632, _, none⟩) (by first | exact Nat.ne_of_lt (Nat.lt_of_lt_of_le (by have := World.block_lt_of_cell? _ _ hw626_2; first | rwa [add_block] at this | exact this) GW632.out) | (rw [add_block]; exact Nat.ne_of_lt (Nat.lt_of_lt_of_le (by have := World.block_lt_of_cell? _ _ hw626_2; first | rwa [add_block] at this | exact this) GW632.out)) | (show (Addr.add _ _).block ≠ _; rw [add_block]; exact Nat.ne_of_lt (Nat.lt_of_lt_of_le (by have := World.block_lt_of_cell? _ _ hw626_2; first | rwa [add_block] at this | exact this) GW632.out)) | (dsimp only; exact Nat.ne_of_lt (Nat.lt_of_lt_of_le (by have := World.block_lt_of_cell? _ _ hw626_2; first | rwa [add_block] at this | exact this) GW632.out))) _).trans (((cell_far (p := ⟨gb632, _, none⟩) (by first | exact Nat.ne_of_lt (Nat.lt_of_lt_of_le (by have := World.block_lt_of_cell? _ _ hw626_2; first | rwa [add_block] at this | exact this) GW632.out) | (rw [add_block]; exact Nat.ne_of_lt (Nat.lt_of_lt_of_le (by have := World.block_lt_of_cell? _ _ hw626_2; first | rwa [add_block] at this | exact this) GW632.out)) | (show (Addr.add _ _).block ≠ _; rw [add_block]; exact Nat.ne_of_lt (Nat.lt_of_lt_of_le (by have := World.block_lt_of_cell? _ _ hw626_2; first | rwa [add_block] at this | exact this) GW632.out)) | (dsimp only; exact Nat.ne_of_lt (Nat.lt_of_lt_of_le (by have := World.block_lt_of_cell? _ _ hw626_2; first | rwa [add_block] at this | exact this) GW632.out))) _).trans (((cell_far (p := ⟨gb632, _, none⟩) (by first | exact Nat.ne_of_lt (Nat.lt_of_lt_of_le (by have := World.block_lt_of_cell? _ _ hw626_2; first | rwa [add_block] at this | exact this) GW632.out) | (rw [add_block]; exact Nat.ne_of_lt (Nat.lt_of_lt_of_le (by have := World.block_lt_of_cell? _ _ hw626_2; first | rwa [add_block] at this | exact this) GW632.out)) | (show (Addr.add _ _).block ≠ _; rw [add_block]; exact Nat.ne_of_lt (Nat.lt_of_lt_of_le (by have := World.block_lt_of_cell? _ _ hw626_2; first | rwa [add_block] at this | exact this) GW632.out)) | (dsimp only; exact Nat.ne_of_lt (Nat.lt_of_lt_of_le (by have := World.block_lt_of_cell? _ _ hw626_2; first | rwa [add_block] at this | exact this) GW632.out))) _).trans (((cell_far (p := ⟨gb632, _, none⟩) (by first | exact Nat.ne_of_lt (Nat.lt_of_lt_of_le (by have := World.block_lt_of_cell? _ _ hw626_2; first | rwa [add_block] at this | exact this) GW632.out) | (rw [add_block]; exact Nat.ne_of_lt (Nat.lt_of_lt_of_le (by have := World.block_lt_of_cell? _ _ hw626_2; first | rwa [add_block] at this | exact this) GW632.out)) | (show (Addr.add _ _).block ≠ _; rw [add_block]; exact Nat.ne_of_lt (Nat.lt_of_lt_of_le (by have := World.block_lt_of_cell? _ _ hw626_2; first | rwa [add_block] at this | exact this) GW632.out)) | (dsimp only; exact Nat.ne_of_lt (Nat.lt_of_lt_of_le (by have := World.block_lt_of_cell? _ _ hw626_2; first | rwa [add_block] at this | exact this) GW632.out))) _).trans (hHeld.2.2.2.2.2.2.1)))))))), ((cell_far (p := ⟨gb632, _, none⟩) (by first | exact Nat.ne_of_lt (Nat.lt_of_lt_of_le (by have := World.block_lt_of_cell? _ _ hw626_3; first | rwa [add_block] at this | exact this) GW632.out) | (rw [add_block]; exact Nat.ne_of_lt (Nat.lt_of_lt_of_le (by have := World.block_lt_of_cell? _ _ hw626_3; first | rwa [add_block] at this | exact this) GW632.out)) | (show (Addr.add _ _).block ≠ _; rw [add_block]; exact Nat.ne_of_lt (Nat.lt_of_lt_of_le (by have := World.block_lt_of_cell? _ _ hw626_3; first | rwa [add_block] at this | exact this) GW632.out)) | (dsimp only; exact Nat.ne_of_lt (Nat.lt_of_lt_of_le (by have := World.block_lt_of_cell? _ _ hw626_3; first | rwa [add_block] at this | exact this) GW632.out))) _).trans (((cell_far (p := ⟨gb632, _, none⟩) (by first | exact Nat.ne_of_lt (Nat.lt_of_lt_of_le (by have := World.block_lt_of_cell? _ _ hw626_3; first | rwa [add_block] at this | exact this) GW632.out) | (rw [add_block]; exact Nat.ne_of_lt (Nat.lt_of_lt_of_le (by have := World.block_lt_of_cell? _ _ hw626_3; first | rwa [add_block] at this | exact this) GW632.out)) | (show (Addr.add _ _).block ≠ _; rw [add_block]; exact Nat.ne_of_lt (Nat.lt_of_lt_of_le (by have := World.block_lt_of_cell? _ _ hw626_3; first | rwa [add_block] at this | exact this) GW632.out)) | (dsimp only; exact Nat.ne_of_lt (Nat.lt_of_lt_of_le (by have := World.block_lt_of_cell? _ _ hw626_3; first | rwa [add_block] at this | exact this) GW632.out))) _).trans (((cell_far (p := ⟨gb632, _, none⟩) (by first | exact Nat.ne_of_lt (Nat.lt_of_lt_of_le (by have := World.block_lt_of_cell? _ _ hw626_3; first | rwa [add_block] at this | exact this) GW632.out) | (rw [add_block]; exact Nat.ne_of_lt (Nat.lt_of_lt_of_le (by have := World.block_lt_of_cell? _ _ hw626_3; first | rwa [add_block] at this | exact this) GW632.out)) | (show (Addr.add _ _).block ≠ _; rw [add_block]; exact Nat.ne_of_lt (Nat.lt_of_lt_of_le (by have := World.block_lt_of_cell? _ _ hw626_3; first | rwa [add_block] at this | exact this) GW632.out)) | (dsimp only; exact Nat.ne_of_lt (Nat.lt_of_lt_of_le (by have := World.block_lt_of_cell? _ _ hw626_3; first | rwa [add_block] at this | exact this) GW632.out))) _).trans (((cell_far (p := ⟨gb632, _, none⟩) (by first | exact Nat.ne_of_lt (Nat.lt_of_lt_of_le (by have := World.block_lt_of_cell? _ _ hw626_3; first | rwa [add_block] at this | exact this) GW632.out) | (rw [add_block]; exact Nat.ne_of_lt (Nat.lt_of_lt_of_le (by have := World.block_lt_of_cell? _ _ hw626_3; first | rwa [add_block] at this | exact this) GW632.out)) | (show (Addr.add _ _).block ≠ _; rw [add_block]; exact Nat.ne_of_lt (Nat.lt_of_lt_of_le (by have := World.block_lt_of_cell? _ _ hw626_3; first | rwa [add_block] at this | exact this) GW632.out)) | (dsimp only; exact Nat.ne_of_lt (Nat.lt_of_lt_of_le (by have := World.block_lt_of_cell? _ _ hw626_3; first | rwa [add_block] at this | exact this) GW632.out))) _).trans (hHeld.2.2.2.2.2.2.2))))))))⟩ (fun hHeld => ?_)
           clear hK K
           refine pu_ HT_ 12 (some 13) #[true, true, true, true, true, true, true, true, true, true, true, true, true] ?_
           refine done_ (done_of HT_.out (by kernel_rfl)) ?_
           try go_wp2
           go_ret2
           exact ⟨by first | rfl | (simp [errW_none, errW_some] <;> rfl) | (simp only [← hji17]; first | rfl | (simp [errW_none, errW_some] <;> rfl)) | (simp [*, errW_none, errW_some] <;> rfl), by repeat (first | (with_reducible first | exact HB.out | apply below_alloc | apply pw_below_drewN | apply below_drew1 | refine below_set ?_ GE625.out | refine below_set ?_ GE632.out) | exact HB.out)⟩
         ·rw [if_neg c20] at H
          exact absurd H (by simp)
        ·rw [if_neg c19] at H
         exact absurd H (by simp)
       ·rw [if_neg c18] at H
        exact absurd H (by simp)
      ·rw [if_neg c16] at H
       have c16b0 : decide (x10_2 < (l1.length : Int)) = false := decide_eq_false c16
       clear c16
       simp only [Option.some.injEq, Prod.mk.injEq] at H
       obtain ⟨rfl, rfl⟩ := H
       go_wp2
       go_ret2
       exact ⟨by first | rfl | (simp [errW_none, errW_some] <;> rfl) | (simp [*, errW_none, errW_some] <;> rfl), by repeat (first | (with_reducible first | exact HB.out | apply below_alloc | apply pw_below_drewN | apply below_drew1) | exact HB.out)⟩
end Go.Proofs.Ytojpcbbmbnmchaa.QC
