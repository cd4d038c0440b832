import Derived.Test.YtbilincmcnnonaaQSx8
import Derived.Test.YtbilincmcnnonaaQSx59
import Derived.Test.YtbilincmcnnonaaQSx63
namespace Go.Proofs.Ytbilincmcnnonaa.QS
open Go.RowKit Go.Proofs.YtbilincmcnnonaaW.PrintWords Go.Proofs.YtbilincmcnnonaaW.PrintLast Go.Proofs.YtbilincmcnnonaaW.PrintMore
attribute [local go_sem] isSome_setCell max2_int min2_int max_two min_two max_three min_three max_four min_four
set_option linter.unusedVariables false
set_option linter.unusedSimpArgs false

attribute [local go_sem high] eqA59
/-! ### impl_isFree: function 166 -/
mutual
def impl_isFree.l0 : Nat → Int → List (S26) → List (S59) → List (S59) → Int → Int → Option (Bool × Int)
 | 0, _, _, _, _, _, _ => none
 | k + 1, x0, x1, x2, x16, x17, x18 => if x18 < x17 then (if 0 ≤ x18 then (if x18 < (x16.length : Int) then (if x18 ≤ (x2.length : Int) then ((some (x2.take (x18 : Int).toNat : List (S59))).bind fun y380 => (impl_isFree.l1 k x0 x1 x2 x16 x17 x18 y380 (y380.length : Int) 0 ((rd_T59 x16 x18).f0.f0) ((rd_T59 x16 x18).f0.f1) ((rd_T59 x16 x18).f0.f2) ((rd_T59 x16 x18).f1))) else (none)) else (none)) else (none)) else (impl_isFree.l2 k x0 x2 x1 (x1.length : Int) 0)
def impl_isFree.l1 : Nat → Int → List (S26) → List (S59) → List (S59) → Int → Int → List (S59) → Int → Int → Int → Int → Int → Bool → Option (Bool × Int)
 | 0, _, _, _, _, _, _, _, _, _, _, _, _, _ => none
 | k + 1, x0, x1, x2, x16, x17, x18, x25, x26, x27, x380000, x380001, x380002, x380003 => if x27 < x26 then (if 0 ≤ x27 then (if x27 < (x25.length : Int) then ((impl_apartSides.f k x0 x380000 x380001 x380002 x380003 ((rd_T59 x25 x27).f0.f0) ((rd_T59 x25 x27).f0.f1) ((rd_T59 x25 x27).f0.f2) ((rd_T59 x25 x27).f1)).bind fun t386 => (if t386 = true then (impl_isFree.l1 k x0 x1 x2 x16 x17 x18 x25 x26 (wrap64 (x27 + 1)) x380000 x380001 x380002 x380003) else (some (false, 0)))) else (none)) else (none)) else (impl_isFree.l0 k x0 x1 x2 x16 x17 (wrap64 (x18 + 1)))
def impl_isFree.l2 : Nat → Int → List (S59) → List (S26) → Int → Int → Option (Bool × Int)
 | 0, _, _, _, _, _ => none
 | k + 1, x0, x2, x38, x39, x40 => if x40 < x39 then (if 0 ≤ x40 then (if x40 < (x38.length : Int) then (if 0 ≤ (wrap64 (2 * x40)) then (if (wrap64 (2 * x40)) < (x2.length : Int) then ((impl_opposite.f ((rd_T59 x2 (wrap64 (2 * x40))).f0.f0) ((rd_T59 x2 (wrap64 (2 * x40))).f0.f1) ((rd_T59 x2 (wrap64 (2 * x40))).f0.f2) ((rd_T59 x2 (wrap64 (2 * x40))).f1)).bind fun bt390 => ((impl_moveSide.f k x0 ((rd_T26 x38 x40).f0.f0) ((rd_T26 x38 x40).f0.f1) ((rd_T26 x38 x40).f1.f0) ((rd_T26 x38 x40).f1.f1) bt390.1 bt390.2.1 bt390.2.2.1 bt390.2.2.2).bind fun bt394 => (if bt394.2.2.2.2 = true then (if 0 ≤ (wrap64 ((wrap64 (2 * x40)) + 1)) then (if (wrap64 ((wrap64 (2 * x40)) + 1)) < (x2.length : Int) then (if ((!(bt394.1 == ((rd_T59 x2 (wrap64 ((wrap64 (2 * x40)) + 1))).f0.f0)) || (!(bt394.2.1 == ((rd_T59 x2 (wrap64 ((wrap64 (2 * x40)) + 1))).f0.f1)) || (!(bt394.2.2.1 == ((rd_T59 x2 (wrap64 ((wrap64 (2 * x40)) + 1))).f0.f2))))) || (!(bt394.2.2.2.1 == ((rd_T59 x2 (wrap64 ((wrap64 (2 * x40)) + 1))).f1)))) = true then (some (false, 0)) else (impl_isFree.l2 k x0 x2 x38 x39 (wrap64 (x40 + 1)))) else (none)) else (none)) else (some (false, 3))))) else (none)) else (none)) else (none)) else (none)) else (some (true, 0))
end
def impl_isFree.f (k : Nat) (a0 : Int) (l1 : List (S26)) (l2 : List (S59)) : Option (Bool × Int) := impl_isFree.l0 k a0 l1 l2 l2 (l2.length : Int) 0
def impl_isFree.T14 : Bool × List (List Nat × List Nat) := (true, [([], []), ([], []), ([], []), ([], []), ([3], [3]), ([2, 4], [2, 4]), ([5], [5]), ([6], [6]), ([0, 1, 7, 7], [0, 1, 7]), ([8], [8]), ([9], [9]), ([9], [9]), ([], []), ([12, 10, 8, 0, 1, 2, 3, 4, 5, 6, 7, 8, 9, 10, 12], [10, 12]), ([11, 13, 0, 1, 2, 3, 4, 5, 6, 7, 8, 9, 10, 11, 12, 13], [11])])
def impl_isFree.B14 : List Nat := [0, 0, 0, 0, 8, 28, 60, 124, 255, 511, 1023, 1023, 0, 6143, 16383]
theorem impl_isFree.tab14 : rtab .any (opsOf Try.f166 14) = impl_isFree.T14 := by kernel_rfl
theorem impl_isFree.bits14 : waitsOk impl_isFree.T14.2 impl_isFree.B14 = true := by kernel_rfl
def impl_isFree.T17 : Bool × List (List Nat × List Nat) := (true, [([], []), ([], []), ([], []), ([2], [2]), ([3], [3]), ([1, 4], [1, 4]), ([5], [5]), ([0, 6], [0, 6]), ([7], [7])])
def impl_isFree.B17 : List Nat := [0, 0, 0, 4, 12, 30, 62, 127, 255]
theorem impl_isFree.tab17 : rtab .any (opsOf Try.f166 17) = impl_isFree.T17 := by kernel_rfl
theorem impl_isFree.bits17 : waitsOk impl_isFree.T17.2 impl_isFree.B17 = true := by kernel_rfl
set_option maxHeartbeats 8000000 in
set_option maxRecDepth 100000 in
theorem impl_isFree.calls (k : Nat) (a0 : Int) (A1 : Option Addr) (c1 : Nat) (l1 : List (S26)) (A2 : Option Addr) (c2 : Nat) (l2 : List (S59)) (r1 : Bool) (r2 : Int) (w : World) (hr1 : Kd.C k26 w A1 l1.length l1) (hc1 : l1.length ≤ c1) (hr2 : Kd.C k59 w A2 l2.length l2) (hc2 : l2.length ≤ c2) (h : impl_isFree.f k a0 l1 l2 = some (r1, r2)) :
  Calls Try.prog 166 #[.int .i64 a0, .slice A1 l1.length c1, .slice A2 l2.length c2] w fun e w' => e = .returned (.tuple #[.bool r1, .int .i64 r2]) ∧ Below w.heap.size w w' := by
 have hu59 := Try.underlying59
 have hu26 := Try.underlying26
 have HR1 := Aside0.mk hr1
 have HC1 := Aside0.mk hc1
 clear hr1 hc1
 have HR2 := Aside0.mk hr2
 have HC2 := Aside0.mk hc2
 clear hr2 hc2
 have HB := Aside0.mk (Below.refl w.heap.size w)
 have H : (impl_isFree.l0 k a0 l1 l2 l2 (l2.length : Int) 0) = some (r1, r2) := h
 clear h
 have H' := Aside0.mk H
 clear H
 go_enter Try.func166, Try.ntmps166
 go_wp2
 go_loopg [18] k (fun kq v18 w' => ∃ (x18_1 : Int), v18 = .int .i64 x18_1 ∧ Aside0 (impl_isFree.l0 kq a0 l1 l2 l2 (l2.length : Int) x18_1 = some (r1, r2)) ∧ Aside0 (kq ≤ k) ∧ Aside0 (Below w.heap.size w w'))
 case atStart => exact ⟨(0), en_, H', ⟨Nat.le_refl _⟩, bw_ HB⟩
 case round =>
  clear H'
  try clear c1
  try clear c2
  try clear p2
  obtain ⟨x18_1, rfl, HA, HK1, HB⟩ := hrel
  cases gk with
  | zero => exact absurd HA.out (by simp [impl_isFree.l0])
  | succ k1 =>
   have H := HA.out
   clear HA
   simp only [impl_isFree.l0] at H
   by_cases c4 : x18_1 < (l2.length : Int)
   ·rw [if_pos c4] at H
    have c4b0 : decide (x18_1 < (l2.length : Int)) = true := decide_eq_true c4
    clear c4
    by_cases c5 : 0 ≤ x18_1
    ·rw [if_pos c5] at H
     have c5b0 : decide (0 ≤ x18_1) = true := decide_eq_true c5
     clear c5
     by_cases c6 : x18_1 < (l2.length : Int)
     ·rw [if_pos c6] at H
      have c6b0 : decide (x18_1 < (l2.length : Int)) = true := decide_eq_true c6
      clear c6
      have c7b0 := eq_true (od_ : 0 ≤ x18_1)
      by_cases c8 : x18_1 ≤ (l2.length : Int)
      ·rw [if_pos c8] at H
       have c8b0 := eq_true c8
       have c8b1 : decide (x18_1 ≤ (l2.length : Int)) = true := decide_eq_true c8
       clear c8
       obtain ⟨y380, hy380⟩ : ∃ y_ : List (S59), y_ = (l2.take (x18_1 : Int).toNat) := ⟨_, rfl⟩
       replace H : (impl_isFree.l1 k1 a0 l1 l2 l2 (l2.length : Int) x18_1 y380 (y380.length : Int) 0 ((rd_T59 l2 x18_1).f0.f0) ((rd_T59 l2 x18_1).f0.f1) ((rd_T59 l2 x18_1).f0.f2) ((rd_T59 l2 x18_1).f1)) = some (r1, r2) := by first | (rw [hy380]; with_reducible exact H) | (have H2_ := (Option.bind_some _ _).symm.trans H; rw [hy380]; with_reducible exact H2_) | (have H2_ := (Option.bind_some _ _).symm.trans H; with_reducible exact H2_) | with_reducible exact H | (rw [hy380]; exact H) | exact H
       have Ny380 := Aside0.mk hy380
       clear hy380
       have H' := Aside0.mk H
       clear H
       have p378 : 0 ≤ (x18_1 : Int) := od_
       have q378 : x18_1 < (l2.length : Int) := od_
       obtain ⟨ad378, e378, hx378_0, hx378_1, hx378_2, hx378_3⟩ := at_T59 HR2.out x18_1 p378 q378
       cases e378
       replace hx378_0 := clTr HB.out hx378_0
       replace hx378_1 := clTr HB.out hx378_1
       replace hx378_2 := clTr HB.out hx378_2
       replace hx378_3 := clTr HB.out hx378_3
       replace p378 := eq_true p378
       replace q378 := eq_true q378
       go_wp2_with (first | (refine bx_ 9 #[.int .i64 0, .int .i64 0, .int .i64 0, .bool false] 59 ?_; intro gb379 hg w9 hbox hb; have BK379 := Aside0.mk (hbox); have GW379 := bs_ HB hg; have GE379 := bs_ HB hg; replace HB := bt_ HB hb; clear hb hbox hg; obtain ⟨hcz10_0, hcz10_1, hcz10_2, hcz10_3, hfz10_0, hfz10_1, hfz10_2, hfz10_3⟩ := ch4_ BK379) | ((with_reducible refine gate_store (t := 59) (p := 9) rfl ?_); refine store_event (t := 59) (p := 9) (v := ?vo_w11) (w1 := ((((w9.setCell ⟨gb379, 0, none⟩ (.int .i64 ((rd_T59 l2 x18_1).f0.f0))).setCell ⟨gb379, 1, none⟩ (.int .i64 ((rd_T59 l2 x18_1).f0.f1))).setCell ⟨gb379, 2, none⟩ (.int .i64 ((rd_T59 l2 x18_1).f0.f2))).setCell ⟨gb379, 3, none⟩ (.bool ((rd_T59 l2 x18_1).f1)))) ?hg ?ho ?hn ?hr ?_; (case ho => rfl); (case hg => rfl); (case hn => rfl); (case hr => first | (go_simp; done) | (go_simp; rfl)); intro w11 hw; have n0_ : Aside0 (w11.heap[gb379]? = some (.cells #[.int .i64 ((rd_T59 l2 x18_1).f0.f0), .int .i64 ((rd_T59 l2 x18_1).f0.f1), .int .i64 ((rd_T59 l2 x18_1).f0.f2), .bool ((rd_T59 l2 x18_1).f1)] 59 (0, 0))) := ⟨(by rw [hw]; exact (bp_ BK379).out)⟩; have n1_ : Aside0 (Below w.heap.size w w11) := ⟨(by rw [hw]; exact (bw_ HB).out)⟩; clear hw; clear BK379; clear HB; have BK379 := n0_; have HB := n1_; clear n0_ n1_; have q12 : (x18_1 : Int) ≤ ((l2.length : Int) : Int) := od_; obtain ⟨i012, hi012, _, hsz12, _⟩ := info_parts info59; have hroom12 : l2.length ≤ c2 := HC2.out; have hC12 : Kd.C k59 _ (some ad378) l2.length l2 := HR2.out; have hcut12 := cut_to (P := Try.prog) 64 59 .i64 Try.underlying64 hi012 (some ad378) l2.length c2 x18_1 od_ q12 hroom12; have hr12 := Kd.C_take (m := (x18_1 : Int).toNat) hC12 (by omega); have hy12 : y380.length = (x18_1 : Int).toNat := (by rw [Ny380.out, List.length_take]; omega); rw [← Ny380.out] at hr12; rw [← hy12] at hcut12; have HR383 := Aside0.mk hr12; have HC383 := Aside0.mk (show y380.length ≤ c2 from by omega); clear hr12 hC12 hroom12 hi012 hsz12; have KY12 := Aside0.mk hy12; clear hy12; replace q12 := eq_true q12))
       go_loopg [27] k1 (fun kq v27 w' => ∃ (x27_2 : Int), v27 = .int .i64 x27_2 ∧ Aside0 (impl_isFree.l1 kq a0 l1 l2 l2 (l2.length : Int) x18_1 y380 (y380.length : Int) x27_2 ((rd_T59 l2 x18_1).f0.f0) ((rd_T59 l2 x18_1).f0.f1) ((rd_T59 l2 x18_1).f0.f2) ((rd_T59 l2 x18_1).f1) = some (r1, r2)) ∧ Aside0 (kq ≤ k1) ∧ Aside0 (w'.heap[gb379]? = some (.cells #[.int .i64 ((rd_T59 l2 x18_1).f0.f0), .int .i64 ((rd_T59 l2 x18_1).f0.f1), .int .i64 ((rd_T59 l2 x18_1).f0.f2), .bool ((rd_T59 l2 x18_1).f1)] 59 (0, 0))) ∧ Aside0 (Below w.heap.size w w'))
       case atStart => exact ⟨(0), en_, H', ⟨Nat.le_refl _⟩, bl_ BK379, bw_ HB⟩
       case round =>
        clear H'
        try clear c1
        try clear q1
        try clear c2
        try clear p2
        try clear p3
        try clear q3
        try clear hx3
        try clear c4
        try clear c4b0
        try clear c5
        try clear c5b0
        try clear c6
        try clear c6b0
        try clear c7
        try clear c7b0
        try clear c8
        try clear c8b0
        try clear c8b1
        try clear q12
        try clear hcz10_0 hcz10_1 hcz10_2 hcz10_3
        try clear hfz10_0 hfz10_1 hfz10_2 hfz10_3
        try clear hx378_0
        try clear hx378_1
        try clear hx378_2
        try clear hx378_3
        try clear p2
        try clear p378
        try clear q12
        try clear q378
        obtain ⟨x27_2, rfl, HA, HK2, BK379, HB⟩ := hrel
        cases gk with
        | zero => exact absurd HA.out (by simp [impl_isFree.l1])
        | succ k2 =>
         have H := HA.out
         clear HA
         simp only [impl_isFree.l1] at H
         by_cases c13 : x27_2 < (y380.length : Int)
         ·rw [if_pos c13] at H
          have c13b0 : decide (x27_2 < (y380.length : Int)) = true := decide_eq_true c13
          clear c13
          by_cases c14 : 0 ≤ x27_2
          ·rw [if_pos c14] at H
           have c14b0 : decide (0 ≤ x27_2) = true := decide_eq_true c14
           clear c14
           by_cases c15 : x27_2 < (y380.length : Int)
           ·rw [if_pos c15] at H
            have c15b0 : decide (x27_2 < (y380.length : Int)) = true := decide_eq_true c15
            clear c15
            replace H := ob_ H
            obtain ⟨t386, A160, H⟩ := H
            have A16 := Aside0.mk A160
            clear A160
            by_cases c17 : t386 = true
            ·subst c17
             have H1 : (impl_isFree.l1 k2 a0 l1 l2 l2 (l2.length : Int) x18_1 y380 (y380.length : Int) (wrap64 (x27_2 + 1)) ((rd_T59 l2 x18_1).f0.f0) ((rd_T59 l2 x18_1).f0.f1) ((rd_T59 l2 x18_1).f0.f2) ((rd_T59 l2 x18_1).f1)) = some (r1, r2) := by rw [if_pos rfl] at H; exact H
             clear H
             have H := H1
             clear H1
             have H' := Aside0.mk H
             clear H
             have p384 : 0 ≤ (x27_2 : Int) := od_
             have q384 : x27_2 < (y380.length : Int) := od_
             obtain ⟨ad384, e384, hx384_0, hx384_1, hx384_2, hx384_3⟩ := at_T59 HR383.out x27_2 p384 q384
             obtain rfl : ad378 = ad384 := (by injection e384)
             replace hx384_0 := clTr HB.out hx384_0
             replace hx384_1 := clTr HB.out hx384_1
             replace hx384_2 := clTr HB.out hx384_2
             replace hx384_3 := clTr HB.out hx384_3
             replace p384 := eq_true p384
             replace q384 := eq_true q384
             go_wp2_with (first | (refine bx_ 11 #[.int .i64 0, .int .i64 0, .int .i64 0, .bool false] 59 ?_; intro gb385 hg w18 hbox hb; have BK385 := Aside0.mk (hbox); have GW385 := bs_ HB hg; have GE385 := bs_ HB hg; have NB379_385 := bm_ BK379 hg; have NB385_379 := bn_ BK379 hg; replace BK379 := bb_ BK379 hb; replace HB := bt_ HB hb; clear hb hbox hg; have hnb19 := NB385_379.out; have hnc19 := NB379_385.out; obtain ⟨hcz20_0, hcz20_1, hcz20_2, hcz20_3, hfz20_0, hfz20_1, hfz20_2, hfz20_3⟩ := ch4_ BK385; obtain ⟨hcz21_0, hcz21_1, hcz21_2, hcz21_3, hfz21_0, hfz21_1, hfz21_2, hfz21_3⟩ := ch4_ BK379) | (refine ge_ 34 Try.func194 #[.int .i64 a0, .agg #[.int .i64 ((rd_T59 l2 x18_1).f0.f0), .int .i64 ((rd_T59 l2 x18_1).f0.f1), .int .i64 ((rd_T59 l2 x18_1).f0.f2), .bool ((rd_T59 l2 x18_1).f1)], .agg #[.int .i64 ((rd_T59 y380 x27_2).f0.f0), .int .i64 ((rd_T59 y380 x27_2).f0.f1), .int .i64 ((rd_T59 y380 x27_2).f0.f2), .bool ((rd_T59 y380 x27_2).f1)]] ?_; (with_reducible refine (impl_apartSides.calls k2 a0 ((rd_T59 l2 x18_1).f0.f0) ((rd_T59 l2 x18_1).f0.f1) ((rd_T59 l2 x18_1).f0.f2) ((rd_T59 l2 x18_1).f1) ((rd_T59 y380 x27_2).f0.f0) ((rd_T59 y380 x27_2).f0.f1) ((rd_T59 y380 x27_2).f0.f2) ((rd_T59 y380 x27_2).f1) true _ A16.out).mono ?_); rintro e w22 ⟨rfl, hb⟩; refine ⟨_, rfl, ?_⟩; replace BK379 := fb_ BK379 NB379_385 hb; replace BK385 := Aside0.mk (blk_below (g := gb385) (o := .cells #[.int .i64 ((rd_T59 y380 x27_2).f0.f0), .int .i64 ((rd_T59 y380 x27_2).f0.f1), .int .i64 ((rd_T59 y380 x27_2).f0.f2), .bool ((rd_T59 y380 x27_2).f1)] 59 (0, 0)) (bp_ BK385).out hb); replace HB := bt_ HB hb; (try clear hb); (try clear hb2); (try clear hk); (try clear hi)))
             go_roundg k2
             case measure => have := HK1.out; have := HK2.out; omega
             case rel => exact ⟨(wrap64 (x27_2 + 1)), en_, H', ⟨by have := HK1.out; have := HK2.out; omega⟩, bl_ BK379, bw_ HB⟩
            ·replace c17 := Bool.eq_false_iff.mpr c17
             subst c17
             have H1 : (some (false, 0)) = some (r1, r2) := by rw [if_neg (show ¬ (false = true) by decide)] at H; exact H
             clear H
             have H := H1
             clear H1
             simp only [Option.some.injEq, Prod.mk.injEq] at H
             obtain ⟨rfl, rfl⟩ := H
             have p384 : 0 ≤ (x27_2 : Int) := od_
             have q384 : x27_2 < (y380.length : Int) := od_
             obtain ⟨ad384, e384, hx384_0, hx384_1, hx384_2, hx384_3⟩ := at_T59 HR383.out x27_2 p384 q384
             obtain rfl : ad378 = ad384 := (by injection e384)
             replace hx384_0 := clTr HB.out hx384_0
             replace hx384_1 := clTr HB.out hx384_1
             replace hx384_2 := clTr HB.out hx384_2
             replace hx384_3 := clTr HB.out hx384_3
             replace p384 := eq_true p384
             replace q384 := eq_true q384
             go_wp2_with (first | (refine bx_ 11 #[.int .i64 0, .int .i64 0, .int .i64 0, .bool false] 59 ?_; intro gb385 hg w23 hbox hb; have BK385 := Aside0.mk (hbox); have GW385 := bs_ HB hg; have GE385 := bs_ HB hg; have NB379_385 := bm_ BK379 hg; have NB385_379 := bn_ BK379 hg; replace BK379 := bb_ BK379 hb; replace HB := bt_ HB hb; clear hb hbox hg; have hnb24 := NB385_379.out; have hnc24 := NB379_385.out; obtain ⟨hcz25_0, hcz25_1, hcz25_2, hcz25_3, hfz25_0, hfz25_1, hfz25_2, hfz25_3⟩ := ch4_ BK385; obtain ⟨hcz26_0, hcz26_1, hcz26_2, hcz26_3, hfz26_0, hfz26_1, hfz26_2, hfz26_3⟩ := ch4_ BK379) | (refine ge_ 34 Try.func194 #[.int .i64 a0, .agg #[.int .i64 ((rd_T59 l2 x18_1).f0.f0), .int .i64 ((rd_T59 l2 x18_1).f0.f1), .int .i64 ((rd_T59 l2 x18_1).f0.f2), .bool ((rd_T59 l2 x18_1).f1)], .agg #[.int .i64 ((rd_T59 y380 x27_2).f0.f0), .int .i64 ((rd_T59 y380 x27_2).f0.f1), .int .i64 ((rd_T59 y380 x27_2).f0.f2), .bool ((rd_T59 y380 x27_2).f1)]] ?_; (with_reducible refine (impl_apartSides.calls k2 a0 ((rd_T59 l2 x18_1).f0.f0) ((rd_T59 l2 x18_1).f0.f1) ((rd_T59 l2 x18_1).f0.f2) ((rd_T59 l2 x18_1).f1) ((rd_T59 y380 x27_2).f0.f0) ((rd_T59 y380 x27_2).f0.f1) ((rd_T59 y380 x27_2).f0.f2) ((rd_T59 y380 x27_2).f1) false _ A16.out).mono ?_); rintro e w27 ⟨rfl, hb⟩; refine ⟨_, rfl, ?_⟩; replace BK379 := fb_ BK379 NB379_385 hb; replace BK385 := Aside0.mk (blk_below (g := gb385) (o := .cells #[.int .i64 ((rd_T59 y380 x27_2).f0.f0), .int .i64 ((rd_T59 y380 x27_2).f0.f1), .int .i64 ((rd_T59 y380 x27_2).f0.f2), .bool ((rd_T59 y380 x27_2).f1)] 59 (0, 0)) (bp_ BK385).out hb); replace HB := bt_ HB hb; (try clear hb); (try clear hb2); (try clear hk); (try clear hi)))
             go_ret2
             exact ⟨es_, (bw_ HB).out⟩
           ·rw [if_neg c15] at H
            exact absurd H (by simp)
          ·rw [if_neg c14] at H
           exact absurd H (by simp)
         ·rw [if_neg c13] at H
          have c13b0 : decide (x27_2 < (y380.length : Int)) = false := decide_eq_false c13
          clear c13
          have H' := Aside0.mk H
          clear H
          go_wp2
          go_roundg k2
          case measure => have := HK1.out; have := HK2.out; omega
          case rel => exact ⟨(wrap64 (x18_1 + 1)), en_, H', ⟨by have := HK1.out; have := HK2.out; omega⟩, bw_ HB⟩
      ·rw [if_neg c8] at H
       exact absurd H (by simp)
     ·rw [if_neg c6] at H
      exact absurd H (by simp)
    ·rw [if_neg c5] at H
     exact absurd H (by simp)
   ·rw [if_neg c4] at H
    have c4b0 : decide (x18_1 < (l2.length : Int)) = false := decide_eq_false c4
    clear c4
    have H' := Aside0.mk H
    clear H
    go_wp2
    go_loopg [40] k1 (fun kq v40 w' => ∃ (x40_2 : Int), v40 = .int .i64 x40_2 ∧ Aside0 (impl_isFree.l2 kq a0 l2 l1 (l1.length : Int) x40_2 = some (r1, r2)) ∧ Aside0 (kq ≤ k1) ∧ Aside0 (Below w.heap.size w w'))
    case atStart => exact ⟨(0), en_, H', ⟨Nat.le_refl _⟩, bw_ HB⟩
    case round =>
     clear H'
     try clear c1
     try clear q1
     try clear c2
     try clear p2
     try clear p3
     try clear q3
     try clear hx3
     try clear c4
     try clear c4b0
     try clear c5
     try clear c5b0
     try clear c6
     try clear c6b0
     try clear p6
     try clear c7
     try clear c7b0
     try clear c8
     try clear c8b0
     try clear c8b1
     try clear q12
     try clear c13
     try clear c13b0
     try clear c14
     try clear c14b0
     try clear c15
     try clear c15b0
     try clear c16
     try clear c17
     try clear c19
     try clear c24
     try clear hcz10_0 hcz10_1 hcz10_2 hcz10_3
     try clear hcz20_0 hcz20_1 hcz20_2 hcz20_3
     try clear hcz21_0 hcz21_1 hcz21_2 hcz21_3
     try clear hcz25_0 hcz25_1 hcz25_2 hcz25_3
     try clear hcz26_0 hcz26_1 hcz26_2 hcz26_3
     try clear hfz10_0 hfz10_1 hfz10_2 hfz10_3
     try clear hfz20_0 hfz20_1 hfz20_2 hfz20_3
     try clear hfz21_0 hfz21_1 hfz21_2 hfz21_3
     try clear hfz25_0 hfz25_1 hfz25_2 hfz25_3
     try clear hfz26_0 hfz26_1 hfz26_2 hfz26_3
     try clear hx378_0
     try clear hx378_1
     try clear hx378_2
     try clear hx378_3
     try clear hx384_0
     try clear hx384_1
     try clear hx384_2
     try clear hx384_3
     try clear p2
     try clear p3
     try clear p378
     try clear p384
     try clear q1
     try clear q12
     try clear q3
     try clear q378
     try clear q384
     obtain ⟨x40_2, rfl, HA, HK2, HB⟩ := hrel
     cases gk with
     | zero => exact absurd HA.out (by simp [impl_isFree.l2])
     | succ k2 =>
      have H := HA.out
      clear HA
      simp only [impl_isFree.l2] at H
      by_cases c28 : x40_2 < (l1.length : Int)
      ·rw [if_pos c28] at H
       have c28b0 : decide (x40_2 < (l1.length : Int)) = true := decide_eq_true c28
       clear c28
       by_cases c29 : 0 ≤ x40_2
       ·rw [if_pos c29] at H
        have c29b0 : decide (0 ≤ x40_2) = true := decide_eq_true c29
        clear c29
        by_cases c30 : x40_2 < (l1.length : Int)
        ·rw [if_pos c30] at H
         have c30b0 : decide (x40_2 < (l1.length : Int)) = true := decide_eq_true c30
         clear c30
         obtain ⟨ji31, hji31⟩ : ∃ j_ : Int, (wrap64 (2 * x40_2)) = j_ := ⟨_, rfl⟩
         replace H : (if 0 ≤ (ji31) then (if (ji31) < (l2.length : Int) then ((impl_opposite.f ((rd_T59 l2 (ji31)).f0.f0) ((rd_T59 l2 (ji31)).f0.f1) ((rd_T59 l2 (ji31)).f0.f2) ((rd_T59 l2 (ji31)).f1)).bind fun bt390 => ((impl_moveSide.f k2 a0 ((rd_T26 l1 x40_2).f0.f0) ((rd_T26 l1 x40_2).f0.f1) ((rd_T26 l1 x40_2).f1.f0) ((rd_T26 l1 x40_2).f1.f1) bt390.1 bt390.2.1 bt390.2.2.1 bt390.2.2.2).bind fun bt394 => (if bt394.2.2.2.2 = true then (if 0 ≤ (wrap64 ((ji31) + 1)) then (if (wrap64 ((ji31) + 1)) < (l2.length : Int) then (if ((!(bt394.1 == ((rd_T59 l2 (wrap64 ((ji31) + 1))).f0.f0)) || (!(bt394.2.1 == ((rd_T59 l2 (wrap64 ((ji31) + 1))).f0.f1)) || (!(bt394.2.2.1 == ((rd_T59 l2 (wrap64 ((ji31) + 1))).f0.f2))))) || (!(bt394.2.2.2.1 == ((rd_T59 l2 (wrap64 ((ji31) + 1))).f1)))) = true then (some (false, 0)) else (impl_isFree.l2 k2 a0 l2 l1 (l1.length : Int) (wrap64 (x40_2 + 1)))) else (none)) else (none)) else (some (false, 3))))) else (none)) else (none)) = some (r1, r2) := by first | (rw [hji31] at H; exact H) | (simp only [hji31] at H ⊢; exact H)
         have hji31w : (IntKind.i64.wrap (2 * x40_2)) = ji31 := (i64_w _).trans hji31
         by_cases c32 : 0 ≤ (ji31)
         ·rw [if_pos c32] at H
          have c32b0 : decide (0 ≤ (ji31)) = true := decide_eq_true c32
          clear c32
          by_cases c33 : (ji31) < (l2.length : Int)
          ·rw [if_pos c33] at H
           have c33b0 : decide ((ji31) < (l2.length : Int)) = true := decide_eq_true c33
           clear c33
           replace H := ob_ H
           obtain ⟨⟨t390, t391, t392, t393⟩, A340, H⟩ := H
           have A34 := Aside0.mk A340
           clear A340
           replace H := ob_ H
           obtain ⟨⟨t394, t395, t396, t397, t398⟩, A350, H⟩ := H
           have A35 := Aside0.mk A350
           clear A350
           by_cases c36 : t398 = true
           ·subst c36
            have H1 : (if 0 ≤ (wrap64 ((ji31) + 1)) then (if (wrap64 ((ji31) + 1)) < (l2.length : Int) then (if ((!(t394 == ((rd_T59 l2 (wrap64 ((ji31) + 1))).f0.f0)) || (!(t395 == ((rd_T59 l2 (wrap64 ((ji31) + 1))).f0.f1)) || (!(t396 == ((rd_T59 l2 (wrap64 ((ji31) + 1))).f0.f2))))) || (!(t397 == ((rd_T59 l2 (wrap64 ((ji31) + 1))).f1)))) = true then (some (false, 0)) else (impl_isFree.l2 k2 a0 l2 l1 (l1.length : Int) (wrap64 (x40_2 + 1)))) else (none)) else (none)) = some (r1, r2) := by rw [if_pos rfl] at H; exact H
            clear H
            have H := H1
            clear H1
            obtain ⟨ji37, hji37⟩ : ∃ j_ : Int, (wrap64 ((ji31) + 1)) = j_ := ⟨_, rfl⟩
            replace H : (if 0 ≤ (ji37) then (if (ji37) < (l2.length : Int) then (if ((!(t394 == ((rd_T59 l2 (ji37)).f0.f0)) || (!(t395 == ((rd_T59 l2 (ji37)).f0.f1)) || (!(t396 == ((rd_T59 l2 (ji37)).f0.f2))))) || (!(t397 == ((rd_T59 l2 (ji37)).f1)))) = true then (some (false, 0)) else (impl_isFree.l2 k2 a0 l2 l1 (l1.length : Int) (wrap64 (x40_2 + 1)))) else (none)) else (none)) = some (r1, r2) := by first | (rw [hji37] at H; exact H) | (simp only [hji37] at H ⊢; exact H)
            (try rw [hji37] at A34)
            (try rw [hji37] at A35)
            have hji37w : (IntKind.i64.wrap ((ji31) + 1)) = ji37 := (i64_w _).trans hji37
            by_cases c38 : 0 ≤ (ji37)
            ·rw [if_pos c38] at H
             have c38b0 : decide (0 ≤ (ji37)) = true := decide_eq_true c38
             clear c38
             by_cases c39 : (ji37) < (l2.length : Int)
             ·rw [if_pos c39] at H
              have c39b0 : decide ((ji37) < (l2.length : Int)) = true := decide_eq_true c39
              clear c39
              by_cases c40 : ((!(t394 == ((rd_T59 l2 (ji37)).f0.f0)) || (!(t395 == ((rd_T59 l2 (ji37)).f0.f1)) || (!(t396 == ((rd_T59 l2 (ji37)).f0.f2))))) || (!(t397 == ((rd_T59 l2 (ji37)).f1)))) = true
              ·rw [if_pos c40] at H
               have c40b0 : ((!(t394 == ((rd_T59 l2 (ji37)).f0.f0)) || (!(t395 == ((rd_T59 l2 (ji37)).f0.f1)) || (!(t396 == ((rd_T59 l2 (ji37)).f0.f2))))) || (!(t397 == ((rd_T59 l2 (ji37)).f1)))) = true := c40
               clear c40
               simp only [Option.some.injEq, Prod.mk.injEq] at H
               obtain ⟨rfl, rfl⟩ := H
               have p387 : 0 ≤ (x40_2 : Int) := od_
               have q387 : x40_2 < (l1.length : Int) := od_
               obtain ⟨ad387, e387, hx387_0, hx387_1, hx387_2, hx387_3⟩ := at_T26 HR1.out x40_2 p387 q387
               cases e387
               replace hx387_0 := clTr HB.out hx387_0
               replace hx387_1 := clTr HB.out hx387_1
               replace hx387_2 := clTr HB.out hx387_2
               replace hx387_3 := clTr HB.out hx387_3
               replace p387 := eq_true p387
               replace q387 := eq_true q387
               try go_wp2_with (first | (refine bx_ 13 #[.int .i64 0, .int .i64 0, .int .i64 0, .int .i64 0] 26 ?_; intro gb388 hg w41 hbox hb; have BK388 := Aside0.mk (hbox); have GW388 := bs_ HB hg; have GE388 := bs_ HB hg; replace HB := bt_ HB hb; clear hb hbox hg; obtain ⟨hcz42_0, hcz42_1, hcz42_2, hcz42_3, hfz42_0, hfz42_1, hfz42_2, hfz42_3⟩ := ch4_ BK388))
               have n0_ : Aside0 (((((w41.setCell ⟨gb388, 0, none⟩ (.int .i64 ((rd_T26 l1 x40_2).f0.f0))).setCell ⟨gb388, 1, none⟩ (.int .i64 ((rd_T26 l1 x40_2).f0.f1))).setCell ⟨gb388, 2, none⟩ (.int .i64 ((rd_T26 l1 x40_2).f1.f0))).setCell ⟨gb388, 3, none⟩ (.int .i64 ((rd_T26 l1 x40_2).f1.f1))).heap[gb388]? = some (.cells #[.int .i64 ((rd_T26 l1 x40_2).f0.f0), .int .i64 ((rd_T26 l1 x40_2).f0.f1), .int .i64 ((rd_T26 l1 x40_2).f1.f0), .int .i64 ((rd_T26 l1 x40_2).f1.f1)] 26 (0, 0))) := bp_ BK388
               have n1_ : Aside0 (Below w.heap.size w ((((w41.setCell ⟨gb388, 0, none⟩ (.int .i64 ((rd_T26 l1 x40_2).f0.f0))).setCell ⟨gb388, 1, none⟩ (.int .i64 ((rd_T26 l1 x40_2).f0.f1))).setCell ⟨gb388, 2, none⟩ (.int .i64 ((rd_T26 l1 x40_2).f1.f0))).setCell ⟨gb388, 3, none⟩ (.int .i64 ((rd_T26 l1 x40_2).f1.f1)))) := bw_ HB
               (try clear BK388)
               (try clear HB)
               generalize ((((w41.setCell ⟨gb388, 0, none⟩ (.int .i64 ((rd_T26 l1 x40_2).f0.f0))).setCell ⟨gb388, 1, none⟩ (.int .i64 ((rd_T26 l1 x40_2).f0.f1))).setCell ⟨gb388, 2, none⟩ (.int .i64 ((rd_T26 l1 x40_2).f1.f0))).setCell ⟨gb388, 3, none⟩ (.int .i64 ((rd_T26 l1 x40_2).f1.f1))) = w43 at n0_ n1_ ⊢
               have BK388 := n0_
               have HB := n1_
               clear n0_ n1_
               replace BK388 := Aside0.mk (blk_drew BK388.out)
               replace HB := Aside0.mk (below_drew1 HB.out)
               have p389 : 0 ≤ ((ji31) : Int) := od_
               have q389 : (ji31) < (l2.length : Int) := od_
               obtain ⟨ad389, e389, hx389_0, hx389_1, hx389_2, hx389_3⟩ := at_T59 HR2.out (ji31) p389 q389
               have hw389_3 := hx389_3
               have hw389_2 := hx389_2
               have hw389_1 := hx389_1
               have hw389_0 := hx389_0
               cases e389
               replace hx389_0 := clTr HB.out hx389_0
               replace hx389_1 := clTr HB.out hx389_1
               replace hx389_2 := clTr HB.out hx389_2
               replace hx389_3 := clTr HB.out hx389_3
               replace p389 := eq_true p389
               replace q389 := eq_true q389
               refine start_ (n := 15) (S := fun w' => w'.cell? ⟨gb388, 0, none⟩ = some (.int .i64 ((rd_T26 l1 x40_2).f0.f0)) ∧ w'.cell? ⟨gb388, 1, none⟩ = some (.int .i64 ((rd_T26 l1 x40_2).f0.f1)) ∧ w'.cell? ⟨gb388, 2, none⟩ = some (.int .i64 ((rd_T26 l1 x40_2).f1.f0)) ∧ w'.cell? ⟨gb388, 3, none⟩ = some (.int .i64 ((rd_T26 l1 x40_2).f1.f1)) ∧ w'.cell? (ad389.add (((ji31)).toNat * 4)) = some (.int .i64 ((rd_T59 l2 (ji31)).f0.f0)) ∧ w'.cell? ⟨(ad389.add (((ji31)).toNat * 4)).block, (ad389.add (((ji31)).toNat * 4)).off + 1, none⟩ = some (.int .i64 ((rd_T59 l2 (ji31)).f0.f1)) ∧ w'.cell? ⟨(ad389.add (((ji31)).toNat * 4)).block, (ad389.add (((ji31)).toNat * 4)).off + 2, none⟩ = some (.int .i64 ((rd_T59 l2 (ji31)).f0.f2)) ∧ w'.cell? ⟨(ad389.add (((ji31)).toNat * 4)).block, (ad389.add (((ji31)).toNat * 4)).off + 3, none⟩ = some (.bool ((rd_T59 l2 (ji31)).f1))) (ds := []) (bv_ 15 0) (by kernel_rfl) rfl rfl ⟨cz_ BK388 0, cz_ BK388 1, cz_ BK388 2, cz_ BK388 3, (clTr HB.out hw389_0 :), (clTr HB.out hw389_1 :), (clTr HB.out hw389_2 :), (clTr HB.out hw389_3 :)⟩ (fun hHeld => ?_); refine with_tabW impl_isFree.tab14 impl_isFree.bits14 (fun HT_ HW_ => ?_)
               generalize w43.drew = w44 at BK388 HB hx389_0 hx389_1 hx389_2 hx389_3 hHeld ⊢
               refine pu_ HT_ 0 (some 46) (bv_ 15 1) ?_
               refine pu_ HT_ 2 (some 48) (bv_ 15 5) ?_
               refine pu_ HT_ 3 (some 49) (bv_ 15 13) ?_
               refine pu_ HT_ 4 (some 50) (bv_ 15 29) ?_
               refine pu_ HT_ 5 (some 51) (bv_ 15 61) ?_
               refine ta_ HT_ HW_ 1 (some 47) (bv_ 15 63) hHeld ?_ (hy := by rintro w' ⟨s0, s1, s2, s3, s4, s5, s6, s7⟩; go_simp; with_reducible rfl)
               refine ta_ HT_ HW_ 6 (some 52) (bv_ 15 127) hHeld ?_ (hy := by rintro w' ⟨s0, s1, s2, s3, s4, s5, s6, s7⟩; go_simp; with_reducible rfl)
               refine join_ (σ := Nat) 2 (bv_ 15 8191) (fun s_ => [(53, .agg #[.int .i64 t390, .int .i64 t391, .int .i64 t392, .bool t393]), (54, .tuple #[.agg #[.int .i64 t394, .int .i64 t395, .int .i64 t396, .bool t397], .bool true]), (14, .pointer (some ⟨s_, 0, none⟩)), (45, .tuple #[.agg #[.int .i64 t394, .int .i64 t395, .int .i64 t396, .bool t397], .bool true]), (55, .agg #[.int .i64 t394, .int .i64 t395, .int .i64 t396, .bool t397]), (56, .bool true)]) (fun s_ w' => (w'.cell? ⟨gb388, 0, none⟩ = some (.int .i64 ((rd_T26 l1 x40_2).f0.f0)) ∧ w'.cell? ⟨gb388, 1, none⟩ = some (.int .i64 ((rd_T26 l1 x40_2).f0.f1)) ∧ w'.cell? ⟨gb388, 2, none⟩ = some (.int .i64 ((rd_T26 l1 x40_2).f1.f0)) ∧ w'.cell? ⟨gb388, 3, none⟩ = some (.int .i64 ((rd_T26 l1 x40_2).f1.f1)) ∧ w'.cell? (ad389.add (((ji31)).toNat * 4)) = some (.int .i64 ((rd_T59 l2 (ji31)).f0.f0)) ∧ w'.cell? ⟨(ad389.add (((ji31)).toNat * 4)).block, (ad389.add (((ji31)).toNat * 4)).off + 1, none⟩ = some (.int .i64 ((rd_T59 l2 (ji31)).f0.f1)) ∧ w'.cell? ⟨(ad389.add (((ji31)).toNat * 4)).block, (ad389.add (((ji31)).toNat * 4)).off + 2, none⟩ = some (.int .i64 ((rd_T59 l2 (ji31)).f0.f2)) ∧ w'.cell? ⟨(ad389.add (((ji31)).toNat * 4)).block, (ad389.add (((ji31)).toNat * 4)).off + 3, none⟩ = some (.bool ((rd_T59 l2 (ji31)).f1))) ∧ (w'.heap[gb388]? = some (.cells #[.int .i64 ((rd_T26 l1 x40_2).f0.f0), .int .i64 ((rd_T26 l1 x40_2).f0.f1), .int .i64 ((rd_T26 l1 x40_2).f1.f0), .int .i64 ((rd_T26 l1 x40_2).f1.f1)] 26 (0, 0))) ∧ (w'.heap[s_]? = some (.cells #[.int .i64 0, .int .i64 0, .int .i64 0, .bool false] 59 (0, 0))) ∧ (w.heap.size ≤ s_) ∧ (w.heap.size ≤ s_) ∧ (gb388 ≠ s_) ∧ (s_ ≠ gb388) ∧ (Below w.heap.size w w')) ?_ ?_
               rotate_left
               ·intro hCont
                refine tw_ HT_ 7 12 (some 53) (some 14) (bv_ 15 255) (bv_ 15 4223) (fun K hK => ?_) (fun K hK => ?_)
                ·skip
                 refine gs_ Try.func195 #[.agg #[.int .i64 ((rd_T59 l2 (ji31)).f0.f0), .int .i64 ((rd_T59 l2 (ji31)).f0.f1), .int .i64 ((rd_T59 l2 (ji31)).f0.f2), .bool ((rd_T59 l2 (ji31)).f1)]] ?_ (hargs := by (try simp only [List.map_toArray, List.map_cons, List.map_nil]); first | done | (simp only [hji31]; rfl) | rfl | (simp only [List.length_drop, List.length_take]; rfl))
                 with_reducible refine (impl_opposite.calls ((rd_T59 l2 (ji31)).f0.f0) ((rd_T59 l2 (ji31)).f0.f1) ((rd_T59 l2 (ji31)).f0.f2) ((rd_T59 l2 (ji31)).f1) t390 t391 t392 t393 _ A34.out).mono ?_
                 rintro e w45 ⟨rfl, hb⟩
                 refine ⟨_, rfl, ?_⟩
                 replace BK388 := bb_ BK388 hb
                 replace HB := bt_ HB hb
                 (try clear hb)
                 (try clear hb2)
                 (try clear hk)
                 (try clear hi)
                 refine hK.out _ _ ⟨cz_ BK388 0, cz_ BK388 1, cz_ BK388 2, cz_ BK388 3, (clTr HB.out hw389_0 :), (clTr HB.out hw389_1 :), (clTr HB.out hw389_2 :), (clTr HB.out hw389_3 :)⟩ (fun hHeld => ?_)
                 clear hK K
                 refine nm_ (some 53) ?_
                 refine tw_ HT_ 8 12 (some 54) (some 14) (bv_ 15 511) (bv_ 15 4351) (fun K hK => ?_) (fun K hK => ?_)
                 ·skip
                  refine gs_ Try.func124 #[.int .i64 a0, .agg #[.int .i64 ((rd_T26 l1 x40_2).f0.f0), .int .i64 ((rd_T26 l1 x40_2).f0.f1), .int .i64 ((rd_T26 l1 x40_2).f1.f0), .int .i64 ((rd_T26 l1 x40_2).f1.f1)], .agg #[.int .i64 t390, .int .i64 t391, .int .i64 t392, .bool t393]] ?_
                  with_reducible refine (impl_moveSide.calls k2 a0 ((rd_T26 l1 x40_2).f0.f0) ((rd_T26 l1 x40_2).f0.f1) ((rd_T26 l1 x40_2).f1.f0) ((rd_T26 l1 x40_2).f1.f1) t390 t391 t392 t393 t394 t395 t396 t397 true _ A35.out).mono ?_
                  rintro e w46 ⟨rfl, hb⟩
                  refine ⟨_, rfl, ?_⟩
                  replace BK388 := bb_ BK388 hb
                  replace HB := bt_ HB hb
                  (try clear hb)
                  (try clear hb2)
                  (try clear hk)
                  (try clear hi)
                  refine hK.out _ _ ⟨cz_ BK388 0, cz_ BK388 1, cz_ BK388 2, cz_ BK388 3, (clTr HB.out hw389_0 :), (clTr HB.out hw389_1 :), (clTr HB.out hw389_2 :), (clTr HB.out hw389_3 :)⟩ (fun hHeld => ?_)
                  clear hK K
                  refine nm_ (some 54) ?_
                  refine pu_ HT_ 9 (some 45) (bv_ 15 1023) ?_
                  refine pu_ HT_ 10 (some 55) (bv_ 15 2047) ?_
                  refine pu_ HT_ 11 (some 56) (bv_ 15 4095) ?_
                  refine on_ HT_ 12 (some 14) (bv_ 15 8191) (fun K hK => ?_)
                  refine bz_ 14 #[.int .i64 0, .int .i64 0, .int .i64 0, .bool false] 59 ?_
                  intro gb399 hg w47 hbox hb
                  have BK399 := Aside0.mk (hbox)
                  have GW399 := bs_ HB hg
                  have GE399 := bs_ HB hg
                  have NB388_399 := bm_ BK388 hg
                  have NB399_388 := bn_ BK388 hg
                  replace BK388 := bb_ BK388 hb
                  replace HB := bt_ HB hb
                  clear hb hbox hg
                  refine hK.out _ _ ⟨cz_ BK388 0, cz_ BK388 1, cz_ BK388 2, cz_ BK388 3, (clTr HB.out hw389_0 :), (clTr HB.out hw389_1 :), (clTr HB.out hw389_2 :), (clTr HB.out hw389_3 :)⟩ (fun hHeld => ?_)
                  clear hK K
                  refine nm_ (some 14) ?_
                  exact norm_ (by simp only [putAll, Act.put, lstS, lstZ, lstC]) (hCont (gb399) _ ⟨hHeld, (bl_ BK388).out, (bl_ BK399).out, GW399.out, GE399.out, NB388_399.out, NB399_388.out, (bw_ HB).out⟩)
                 ·skip
                  refine bz_ 14 #[.int .i64 0, .int .i64 0, .int .i64 0, .bool false] 59 ?_
                  intro gb399 hg w46 hbox hb
                  have BK399 := Aside0.mk (hbox)
                  have GW399 := bs_ HB hg
                  have GE399 := bs_ HB hg
                  have NB388_399 := bm_ BK388 hg
                  have NB399_388 := bn_ BK388 hg
                  replace BK388 := bb_ BK388 hb
                  replace HB := bt_ HB hb
                  clear hb hbox hg
                  refine hK.out _ _ ⟨cz_ BK388 0, cz_ BK388 1, cz_ BK388 2, cz_ BK388 3, (clTr HB.out hw389_0 :), (clTr HB.out hw389_1 :), (clTr HB.out hw389_2 :), (clTr HB.out hw389_3 :)⟩ (fun hHeld => ?_)
                  clear hK K
                  refine nm_ (some 14) ?_
                  refine on_ HT_ 8 (some 54) (bv_ 15 4607) (fun K hK => ?_)
                  refine gs_ Try.func124 #[.int .i64 a0, .agg #[.int .i64 ((rd_T26 l1 x40_2).f0.f0), .int .i64 ((rd_T26 l1 x40_2).f0.f1), .int .i64 ((rd_T26 l1 x40_2).f1.f0), .int .i64 ((rd_T26 l1 x40_2).f1.f1)], .agg #[.int .i64 t390, .int .i64 t391, .int .i64 t392, .bool t393]] ?_
                  with_reducible refine (impl_moveSide.calls k2 a0 ((rd_T26 l1 x40_2).f0.f0) ((rd_T26 l1 x40_2).f0.f1) ((rd_T26 l1 x40_2).f1.f0) ((rd_T26 l1 x40_2).f1.f1) t390 t391 t392 t393 t394 t395 t396 t397 true _ A35.out).mono ?_
                  rintro e w47 ⟨rfl, hb⟩
                  refine ⟨_, rfl, ?_⟩
                  replace BK388 := bb_ BK388 hb
                  replace BK399 := bb_ BK399 hb
                  replace HB := bt_ HB hb
                  (try clear hb)
                  (try clear hb2)
                  (try clear hk)
                  (try clear hi)
                  refine hK.out _ _ ⟨cz_ BK388 0, cz_ BK388 1, cz_ BK388 2, cz_ BK388 3, (clTr HB.out hw389_0 :), (clTr HB.out hw389_1 :), (clTr HB.out hw389_2 :), (clTr HB.out hw389_3 :)⟩ (fun hHeld => ?_)
                  clear hK K
                  refine nm_ (some 54) ?_
                  refine pu_ HT_ 9 (some 45) (bv_ 15 5119) ?_
                  refine pu_ HT_ 10 (some 55) (bv_ 15 6143) ?_
                  refine pu_ HT_ 11 (some 56) (bv_ 15 8191) ?_
                  exact norm_ (by simp only [putAll, Act.put, lstS, lstZ, lstC]) (hCont (gb399) _ ⟨hHeld, (bl_ BK388).out, (bl_ BK399).out, GW399.out, GE399.out, NB388_399.out, NB399_388.out, (bw_ HB).out⟩)
                ·skip
                 refine bz_ 14 #[.int .i64 0, .int .i64 0, .int .i64 0, .bool false] 59 ?_
                 intro gb399 hg w45 hbox hb
                 have BK399 := Aside0.mk (hbox)
                 have GW399 := bs_ HB hg
                 have GE399 := bs_ HB hg
                 have NB388_399 := bm_ BK388 hg
                 have NB399_388 := bn_ BK388 hg
                 replace BK388 := bb_ BK388 hb
                 replace HB := bt_ HB hb
                 clear hb hbox hg
                 refine hK.out _ _ ⟨cz_ BK388 0, cz_ BK388 1, cz_ BK388 2, cz_ BK388 3, (clTr HB.out hw389_0 :), (clTr HB.out hw389_1 :), (clTr HB.out hw389_2 :), (clTr HB.out hw389_3 :)⟩ (fun hHeld => ?_)
                 clear hK K
                 refine nm_ (some 14) ?_
                 refine on_ HT_ 7 (some 53) (bv_ 15 4351) (fun K hK => ?_)
                 refine gs_ Try.func195 #[.agg #[.int .i64 ((rd_T59 l2 (ji31)).f0.f0), .int .i64 ((rd_T59 l2 (ji31)).f0.f1), .int .i64 ((rd_T59 l2 (ji31)).f0.f2), .bool ((rd_T59 l2 (ji31)).f1)]] ?_ (hargs := by (try simp only [List.map_toArray, List.map_cons, List.map_nil]); first | done | (simp only [hji31]; rfl) | rfl | (simp only [List.length_drop, List.length_take]; rfl))
                 with_reducible refine (impl_opposite.calls ((rd_T59 l2 (ji31)).f0.f0) ((rd_T59 l2 (ji31)).f0.f1) ((rd_T59 l2 (ji31)).f0.f2) ((rd_T59 l2 (ji31)).f1) t390 t391 t392 t393 _ A34.out).mono ?_
                 rintro e w46 ⟨rfl, hb⟩
                 refine ⟨_, rfl, ?_⟩
                 replace BK388 := bb_ BK388 hb
                 replace BK399 := bb_ BK399 hb
                 replace HB := bt_ HB hb
                 (try clear hb)
                 (try clear hb2)
                 (try clear hk)
                 (try clear hi)
                 refine hK.out _ _ ⟨cz_ BK388 0, cz_ BK388 1, cz_ BK388 2, cz_ BK388 3, (clTr HB.out hw389_0 :), (clTr HB.out hw389_1 :), (clTr HB.out hw389_2 :), (clTr HB.out hw389_3 :)⟩ (fun hHeld => ?_)
                 clear hK K
                 refine nm_ (some 53) ?_
                 refine on_ HT_ 8 (some 54) (bv_ 15 4607) (fun K hK => ?_)
                 refine gs_ Try.func124 #[.int .i64 a0, .agg #[.int .i64 ((rd_T26 l1 x40_2).f0.f0), .int .i64 ((rd_T26 l1 x40_2).f0.f1), .int .i64 ((rd_T26 l1 x40_2).f1.f0), .int .i64 ((rd_T26 l1 x40_2).f1.f1)], .agg #[.int .i64 t390, .int .i64 t391, .int .i64 t392, .bool t393]] ?_
                 with_reducible refine (impl_moveSide.calls k2 a0 ((rd_T26 l1 x40_2).f0.f0) ((rd_T26 l1 x40_2).f0.f1) ((rd_T26 l1 x40_2).f1.f0) ((rd_T26 l1 x40_2).f1.f1) t390 t391 t392 t393 t394 t395 t396 t397 true _ A35.out).mono ?_
                 rintro e w47 ⟨rfl, hb⟩
                 refine ⟨_, rfl, ?_⟩
                 replace BK388 := bb_ BK388 hb
                 replace BK399 := bb_ BK399 hb
                 replace HB := bt_ HB hb
                 (try clear hb)
                 (try clear hb2)
                 (try clear hk)
                 (try clear hi)
                 refine hK.out _ _ ⟨cz_ BK388 0, cz_ BK388 1, cz_ BK388 2, cz_ BK388 3, (clTr HB.out hw389_0 :), (clTr HB.out hw389_1 :), (clTr HB.out hw389_2 :), (clTr HB.out hw389_3 :)⟩ (fun hHeld => ?_)
                 clear hK K
                 refine nm_ (some 54) ?_
                 refine pu_ HT_ 9 (some 45) (bv_ 15 5119) ?_
                 refine pu_ HT_ 10 (some 55) (bv_ 15 6143) ?_
                 refine pu_ HT_ 11 (some 56) (bv_ 15 8191) ?_
                 exact norm_ (by simp only [putAll, Act.put, lstS, lstZ, lstC]) (hCont (gb399) _ ⟨hHeld, (bl_ BK388).out, (bl_ BK399).out, GW399.out, GE399.out, NB388_399.out, NB399_388.out, (bw_ HB).out⟩)
               rintro gb399 w48 ⟨hS_, h0_, h1_, h2_, h3_, h4_, h5_, h6_⟩
               have n0_ : Aside0 (w48.heap[gb388]? = some (.cells #[.int .i64 ((rd_T26 l1 x40_2).f0.f0), .int .i64 ((rd_T26 l1 x40_2).f0.f1), .int .i64 ((rd_T26 l1 x40_2).f1.f0), .int .i64 ((rd_T26 l1 x40_2).f1.f1)] 26 (0, 0))) := ⟨h0_⟩
               have n1_ : Aside0 (w48.heap[gb399]? = some (.cells #[.int .i64 0, .int .i64 0, .int .i64 0, .bool false] 59 (0, 0))) := ⟨h1_⟩
               have n2_ : Aside0 (w.heap.size ≤ gb399) := ⟨h2_⟩
               have n3_ : Aside0 (w.heap.size ≤ gb399) := ⟨h3_⟩
               have n4_ : Aside0 (gb388 ≠ gb399) := ⟨h4_⟩
               have n5_ : Aside0 (gb399 ≠ gb388) := ⟨h5_⟩
               have n6_ : Aside0 (Below w.heap.size w w48) := ⟨h6_⟩
               clear BK388
               clear HB
               clear h0_ h1_ h2_ h3_ h4_ h5_ h6_
               have BK388 := n0_
               have BK399 := n1_
               have GW399 := n2_
               have GE399 := n3_
               have NB388_399 := n4_
               have NB399_388 := n5_
               have HB := n6_
               clear n0_ n1_ n2_ n3_ n4_ n5_ n6_
               have hHeld : w48.cell? ⟨gb388, 0, none⟩ = some (.int .i64 ((rd_T26 l1 x40_2).f0.f0)) ∧ w48.cell? ⟨gb388, 1, none⟩ = some (.int .i64 ((rd_T26 l1 x40_2).f0.f1)) ∧ w48.cell? ⟨gb388, 2, none⟩ = some (.int .i64 ((rd_T26 l1 x40_2).f1.f0)) ∧ w48.cell? ⟨gb388, 3, none⟩ = some (.int .i64 ((rd_T26 l1 x40_2).f1.f1)) ∧ w48.cell? (ad389.add (((ji31)).toNat * 4)) = some (.int .i64 ((rd_T59 l2 (ji31)).f0.f0)) ∧ w48.cell? ⟨(ad389.add (((ji31)).toNat * 4)).block, (ad389.add (((ji31)).toNat * 4)).off + 1, none⟩ = some (.int .i64 ((rd_T59 l2 (ji31)).f0.f1)) ∧ w48.cell? ⟨(ad389.add (((ji31)).toNat * 4)).block, (ad389.add (((ji31)).toNat * 4)).off + 2, none⟩ = some (.int .i64 ((rd_T59 l2 (ji31)).f0.f2)) ∧ w48.cell? ⟨(ad389.add (((ji31)).toNat * 4)).block, (ad389.add (((ji31)).toNat * 4)).off + 3, none⟩ = some (.bool ((rd_T59 l2 (ji31)).f1)) := hS_
               refine norm_ (a' := ?_) ?_ ?_
               rotate_left
               ·simp only [putAll, Act.put, lstS, lstZ, lstC]
                rfl
               refine on_ HT_ 13 none (bv_ 15 16383) (fun K hK => ?_)
               have hs49 : w48.cell? ⟨gb399, 0, none⟩ = some (.int .i64 0) := (blk_cell BK399.out 0).trans rfl
               have hfs49 := blk_frozen BK399.out 0
               have hns49_0 := NB388_399.out
               have hms49_0 := NB399_388.out
               have hs50 : w48.cell? ⟨gb399, 1, none⟩ = some (.int .i64 0) := (blk_cell BK399.out 1).trans rfl
               have hfs50 := blk_frozen BK399.out 1
               have hns50_0 := NB388_399.out
               have hms50_0 := NB399_388.out
               have hs51 : w48.cell? ⟨gb399, 2, none⟩ = some (.int .i64 0) := (blk_cell BK399.out 2).trans rfl
               have hfs51 := blk_frozen BK399.out 2
               have hns51_0 := NB388_399.out
               have hms51_0 := NB399_388.out
               have hs52 : w48.cell? ⟨gb399, 3, none⟩ = some (.bool false) := (blk_cell BK399.out 3).trans rfl
               have hfs52 := blk_frozen BK399.out 3
               have hns52_0 := NB388_399.out
               have hms52_0 := NB399_388.out
               refine skip_ (w1 := ?_) (by rfl) rfl ?_ ?_
               rotate_left
               ·go_simp
                rfl
               refine hK.out _ _ ⟨(cg_ NB388_399 ((cg_ NB388_399 ((cg_ NB388_399 ((cg_ NB388_399 (hHeld.1)))))))), (cg_ NB388_399 ((cg_ NB388_399 ((cg_ NB388_399 ((cg_ NB388_399 (hHeld.2.1)))))))), (cg_ NB388_399 ((cg_ NB388_399 ((cg_ NB388_399 ((cg_ NB388_399 (hHeld.2.2.1)))))))), (cg_ NB388_399 ((cg_ NB388_399 ((cg_ NB388_399 ((cg_ NB388_399 (hHeld.2.2.2.1)))))))), (cf_ hw389_0 GW399 ((cf_ hw389_0 GW399 ((cf_ hw389_0 GW399 ((cf_ hw389_0 GW399 (hHeld.2.2.2.2.1)))))))), (cf_ hw389_1 GW399 ((cf_ hw389_1 GW399 ((cf_ hw389_1 GW399 ((cf_ hw389_1 GW399 (hHeld.2.2.2.2.2.1)))))))), (cf_ hw389_2 GW399 ((cf_ hw389_2 GW399 ((cf_ hw389_2 GW399 ((cf_ hw389_2 GW399 (hHeld.2.2.2.2.2.2.1)))))))), (cf_ hw389_3 GW399 ((cf_ hw389_3 GW399 ((cf_ hw389_3 GW399 ((cf_ hw389_3 GW399 (hHeld.2.2.2.2.2.2.2))))))))⟩ (fun hHeld => ?_)
               clear hK K
               refine pu_ HT_ 14 (some 15) (bv_ 15 32767) ?_
               refine done_ (done_of HT_.out (by kernel_rfl)) ?_
               try go_wp2
               have n0_ : Aside0 (((((w48.setCell ⟨gb399, 0, none⟩ (.int .i64 t394)).setCell ⟨gb399, 1, none⟩ (.int .i64 t395)).setCell ⟨gb399, 2, none⟩ (.int .i64 t396)).setCell ⟨gb399, 3, none⟩ (.bool t397)).heap[gb388]? = some (.cells #[.int .i64 ((rd_T26 l1 x40_2).f0.f0), .int .i64 ((rd_T26 l1 x40_2).f0.f1), .int .i64 ((rd_T26 l1 x40_2).f1.f0), .int .i64 ((rd_T26 l1 x40_2).f1.f1)] 26 (0, 0))) := fl_ BK388 NB388_399
               have n1_ : Aside0 (((((w48.setCell ⟨gb399, 0, none⟩ (.int .i64 t394)).setCell ⟨gb399, 1, none⟩ (.int .i64 t395)).setCell ⟨gb399, 2, none⟩ (.int .i64 t396)).setCell ⟨gb399, 3, none⟩ (.bool t397)).heap[gb399]? = some (.cells #[.int .i64 t394, .int .i64 t395, .int .i64 t396, .bool t397] 59 (0, 0))) := bp_ BK399
               have n2_ : Aside0 (Below w.heap.size w ((((w48.setCell ⟨gb399, 0, none⟩ (.int .i64 t394)).setCell ⟨gb399, 1, none⟩ (.int .i64 t395)).setCell ⟨gb399, 2, none⟩ (.int .i64 t396)).setCell ⟨gb399, 3, none⟩ (.bool t397))) := bw_ HB
               (try clear BK388)
               (try clear BK399)
               (try clear HB)
               generalize ((((w48.setCell ⟨gb399, 0, none⟩ (.int .i64 t394)).setCell ⟨gb399, 1, none⟩ (.int .i64 t395)).setCell ⟨gb399, 2, none⟩ (.int .i64 t396)).setCell ⟨gb399, 3, none⟩ (.bool t397)) = w53 at n0_ n1_ n2_ ⊢
               have BK388 := n0_
               have BK399 := n1_
               have HB := n2_
               clear n0_ n1_ n2_
               replace BK388 := Aside0.mk (blk_drew BK388.out)
               replace BK399 := Aside0.mk (blk_drew BK399.out)
               replace HB := Aside0.mk (below_drew1 HB.out)
               have p400 : 0 ≤ ((ji37) : Int) := od_
               have q400 : (ji37) < (l2.length : Int) := od_
               obtain ⟨ad400, e400, hx400_0, hx400_1, hx400_2, hx400_3⟩ := at_T59 HR2.out (ji37) p400 q400
               have hw400_3 := hx400_3
               have hw400_2 := hx400_2
               have hw400_1 := hx400_1
               have hw400_0 := hx400_0
               obtain rfl : ad389 = ad400 := (by injection e400)
               replace hx400_0 := clTr HB.out hx400_0
               replace hx400_1 := clTr HB.out hx400_1
               replace hx400_2 := clTr HB.out hx400_2
               replace hx400_3 := clTr HB.out hx400_3
               replace p400 := eq_true p400
               replace q400 := eq_true q400
               refine start_ (n := 9) (S := fun w' => w'.cell? ⟨gb399, 0, none⟩ = some (.int .i64 t394) ∧ w'.cell? ⟨gb399, 1, none⟩ = some (.int .i64 t395) ∧ w'.cell? ⟨gb399, 2, none⟩ = some (.int .i64 t396) ∧ w'.cell? ⟨gb399, 3, none⟩ = some (.bool t397) ∧ w'.cell? (ad389.add (((ji37)).toNat * 4)) = some (.int .i64 ((rd_T59 l2 (ji37)).f0.f0)) ∧ w'.cell? ⟨(ad389.add (((ji37)).toNat * 4)).block, (ad389.add (((ji37)).toNat * 4)).off + 1, none⟩ = some (.int .i64 ((rd_T59 l2 (ji37)).f0.f1)) ∧ w'.cell? ⟨(ad389.add (((ji37)).toNat * 4)).block, (ad389.add (((ji37)).toNat * 4)).off + 2, none⟩ = some (.int .i64 ((rd_T59 l2 (ji37)).f0.f2)) ∧ w'.cell? ⟨(ad389.add (((ji37)).toNat * 4)).block, (ad389.add (((ji37)).toNat * 4)).off + 3, none⟩ = some (.bool ((rd_T59 l2 (ji37)).f1))) (ds := []) (bv_ 9 0) (by kernel_rfl) rfl rfl ⟨cz_ BK399 0, cz_ BK399 1, cz_ BK399 2, cz_ BK399 3, (clTr HB.out hw400_0 :), (clTr HB.out hw400_1 :), (clTr HB.out hw400_2 :), (clTr HB.out hw400_3 :)⟩ (fun hHeld => ?_); refine with_tabW impl_isFree.tab17 impl_isFree.bits17 (fun HT_ HW_ => ?_)
               generalize w53.drew = w54 at BK388 BK399 HB hx400_0 hx400_1 hx400_2 hx400_3 hHeld ⊢
               refine pu_ HT_ 1 (some 62) (bv_ 9 2) ?_
               refine pu_ HT_ 2 (some 63) (bv_ 9 6) ?_
               refine pu_ HT_ 3 (some 64) (bv_ 9 14) ?_
               refine pu_ HT_ 4 (some 65) (bv_ 9 30) ?_
               refine pu_ HT_ 5 (some 66) (bv_ 9 62) ?_
               refine ta_ HT_ HW_ 0 (some 61) (bv_ 9 63) hHeld ?_ (hy := by rintro w' ⟨s0, s1, s2, s3, s4, s5, s6, s7⟩; go_simp; with_reducible rfl)
               refine ta_ HT_ HW_ 6 (some 67) (bv_ 9 127) hHeld ?_ (hy := by rintro w' ⟨s0, s1, s2, s3, s4, s5, s6, s7⟩; go_simp; with_reducible rfl)
               refine pu_ HT_ 7 (some 68) (bv_ 9 255) ?_
               refine pu_ HT_ 8 (some 60) (bv_ 9 511) ?_
               refine done_ (done_of HT_.out (by kernel_rfl)) ?_
               try go_wp2
               go_ret2
               exact ⟨by first | rfl | (simp [errW_none, errW_some] <;> rfl) | (simp only [← hji31, ← hji37]; first | rfl | (simp [errW_none, errW_some] <;> rfl)) | (simp [*, errW_none, errW_some] <;> rfl), (bw_ HB).out⟩
              ·rw [if_neg c40] at H
               have c40b0 : ((!(t394 == ((rd_T59 l2 (ji37)).f0.f0)) || (!(t395 == ((rd_T59 l2 (ji37)).f0.f1)) || (!(t396 == ((rd_T59 l2 (ji37)).f0.f2))))) || (!(t397 == ((rd_T59 l2 (ji37)).f1)))) = false := by simpa using c40
               clear c40
               have H' := Aside0.mk H
               clear H
               have p387 : 0 ≤ (x40_2 : Int) := od_
               have q387 : x40_2 < (l1.length : Int) := od_
               obtain ⟨ad387, e387, hx387_0, hx387_1, hx387_2, hx387_3⟩ := at_T26 HR1.out x40_2 p387 q387
               cases e387
               replace hx387_0 := clTr HB.out hx387_0
               replace hx387_1 := clTr HB.out hx387_1
               replace hx387_2 := clTr HB.out hx387_2
               replace hx387_3 := clTr HB.out hx387_3
               replace p387 := eq_true p387
               replace q387 := eq_true q387
               try go_wp2_with (first | (refine bx_ 13 #[.int .i64 0, .int .i64 0, .int .i64 0, .int .i64 0] 26 ?_; intro gb388 hg w55 hbox hb; have BK388 := Aside0.mk (hbox); have GW388 := bs_ HB hg; have GE388 := bs_ HB hg; replace HB := bt_ HB hb; clear hb hbox hg; obtain ⟨hcz56_0, hcz56_1, hcz56_2, hcz56_3, hfz56_0, hfz56_1, hfz56_2, hfz56_3⟩ := ch4_ BK388))
               have n0_ : Aside0 (((((w55.setCell ⟨gb388, 0, none⟩ (.int .i64 ((rd_T26 l1 x40_2).f0.f0))).setCell ⟨gb388, 1, none⟩ (.int .i64 ((rd_T26 l1 x40_2).f0.f1))).setCell ⟨gb388, 2, none⟩ (.int .i64 ((rd_T26 l1 x40_2).f1.f0))).setCell ⟨gb388, 3, none⟩ (.int .i64 ((rd_T26 l1 x40_2).f1.f1))).heap[gb388]? = some (.cells #[.int .i64 ((rd_T26 l1 x40_2).f0.f0), .int .i64 ((rd_T26 l1 x40_2).f0.f1), .int .i64 ((rd_T26 l1 x40_2).f1.f0), .int .i64 ((rd_T26 l1 x40_2).f1.f1)] 26 (0, 0))) := bp_ BK388
               have n1_ : Aside0 (Below w.heap.size w ((((w55.setCell ⟨gb388, 0, none⟩ (.int .i64 ((rd_T26 l1 x40_2).f0.f0))).setCell ⟨gb388, 1, none⟩ (.int .i64 ((rd_T26 l1 x40_2).f0.f1))).setCell ⟨gb388, 2, none⟩ (.int .i64 ((rd_T26 l1 x40_2).f1.f0))).setCell ⟨gb388, 3, none⟩ (.int .i64 ((rd_T26 l1 x40_2).f1.f1)))) := bw_ HB
               (try clear BK388)
               (try clear HB)
               generalize ((((w55.setCell ⟨gb388, 0, none⟩ (.int .i64 ((rd_T26 l1 x40_2).f0.f0))).setCell ⟨gb388, 1, none⟩ (.int .i64 ((rd_T26 l1 x40_2).f0.f1))).setCell ⟨gb388, 2, none⟩ (.int .i64 ((rd_T26 l1 x40_2).f1.f0))).setCell ⟨gb388, 3, none⟩ (.int .i64 ((rd_T26 l1 x40_2).f1.f1))) = w57 at n0_ n1_ ⊢
               have BK388 := n0_
               have HB := n1_
               clear n0_ n1_
               replace BK388 := Aside0.mk (blk_drew BK388.out)
               replace HB := Aside0.mk (below_drew1 HB.out)
               have p389 : 0 ≤ ((ji31) : Int) := od_
               have q389 : (ji31) < (l2.length : Int) := od_
               obtain ⟨ad389, e389, hx389_0, hx389_1, hx389_2, hx389_3⟩ := at_T59 HR2.out (ji31) p389 q389
               have hw389_3 := hx389_3
               have hw389_2 := hx389_2
               have hw389_1 := hx389_1
               have hw389_0 := hx389_0
               cases e389
               replace hx389_0 := clTr HB.out hx389_0
               replace hx389_1 := clTr HB.out hx389_1
               replace hx389_2 := clTr HB.out hx389_2
               replace hx389_3 := clTr HB.out hx389_3
               replace p389 := eq_true p389
               replace q389 := eq_true q389
               refine start_ (n := 15) (S := fun w' => w'.cell? ⟨gb388, 0, none⟩ = some (.int .i64 ((rd_T26 l1 x40_2).f0.f0)) ∧ w'.cell? ⟨gb388, 1, none⟩ = some (.int .i64 ((rd_T26 l1 x40_2).f0.f1)) ∧ w'.cell? ⟨gb388, 2, none⟩ = some (.int .i64 ((rd_T26 l1 x40_2).f1.f0)) ∧ w'.cell? ⟨gb388, 3, none⟩ = some (.int .i64 ((rd_T26 l1 x40_2).f1.f1)) ∧ w'.cell? (ad389.add (((ji31)).toNat * 4)) = some (.int .i64 ((rd_T59 l2 (ji31)).f0.f0)) ∧ w'.cell? ⟨(ad389.add (((ji31)).toNat * 4)).block, (ad389.add (((ji31)).toNat * 4)).off + 1, none⟩ = some (.int .i64 ((rd_T59 l2 (ji31)).f0.f1)) ∧ w'.cell? ⟨(ad389.add (((ji31)).toNat * 4)).block, (ad389.add (((ji31)).toNat * 4)).off + 2, none⟩ = some (.int .i64 ((rd_T59 l2 (ji31)).f0.f2)) ∧ w'.cell? ⟨(ad389.add (((ji31)).toNat * 4)).block, (ad389.add (((ji31)).toNat * 4)).off + 3, none⟩ = some (.bool ((rd_T59 l2 (ji31)).f1))) (ds := []) (bv_ 15 0) (by kernel_rfl) rfl rfl ⟨cz_ BK388 0, cz_ BK388 1, cz_ BK388 2, cz_ BK388 3, (clTr HB.out hw389_0 :), (clTr HB.out hw389_1 :), (clTr HB.out hw389_2 :), (clTr HB.out hw389_3 :)⟩ (fun hHeld => ?_); refine with_tabW impl_isFree.tab14 impl_isFree.bits14 (fun HT_ HW_ => ?_)
               generalize w57.drew = w58 at BK388 HB hx389_0 hx389_1 hx389_2 hx389_3 hHeld ⊢
               refine pu_ HT_ 0 (some 46) (bv_ 15 1) ?_
               refine pu_ HT_ 2 (some 48) (bv_ 15 5) ?_
               refine pu_ HT_ 3 (some 49) (bv_ 15 13) ?_
               refine pu_ HT_ 4 (some 50) (bv_ 15 29) ?_
               refine pu_ HT_ 5 (some 51) (bv_ 15 61) ?_
               refine ta_ HT_ HW_ 1 (some 47) (bv_ 15 63) hHeld ?_ (hy := by rintro w' ⟨s0, s1, s2, s3, s4, s5, s6, s7⟩; go_simp; with_reducible rfl)
               refine ta_ HT_ HW_ 6 (some 52) (bv_ 15 127) hHeld ?_ (hy := by rintro w' ⟨s0, s1, s2, s3, s4, s5, s6, s7⟩; go_simp; with_reducible rfl)
               refine join_ (σ := Nat) 2 (bv_ 15 8191) (fun s_ => [(53, .agg #[.int .i64 t390, .int .i64 t391, .int .i64 t392, .bool t393]), (54, .tuple #[.agg #[.int .i64 t394, .int .i64 t395, .int .i64 t396, .bool t397], .bool true]), (14, .pointer (some ⟨s_, 0, none⟩)), (45, .tuple #[.agg #[.int .i64 t394, .int .i64 t395, .int .i64 t396, .bool t397], .bool true]), (55, .agg #[.int .i64 t394, .int .i64 t395, .int .i64 t396, .bool t397]), (56, .bool true)]) (fun s_ w' => (w'.cell? ⟨gb388, 0, none⟩ = some (.int .i64 ((rd_T26 l1 x40_2).f0.f0)) ∧ w'.cell? ⟨gb388, 1, none⟩ = some (.int .i64 ((rd_T26 l1 x40_2).f0.f1)) ∧ w'.cell? ⟨gb388, 2, none⟩ = some (.int .i64 ((rd_T26 l1 x40_2).f1.f0)) ∧ w'.cell? ⟨gb388, 3, none⟩ = some (.int .i64 ((rd_T26 l1 x40_2).f1.f1)) ∧ w'.cell? (ad389.add (((ji31)).toNat * 4)) = some (.int .i64 ((rd_T59 l2 (ji31)).f0.f0)) ∧ w'.cell? ⟨(ad389.add (((ji31)).toNat * 4)).block, (ad389.add (((ji31)).toNat * 4)).off + 1, none⟩ = some (.int .i64 ((rd_T59 l2 (ji31)).f0.f1)) ∧ w'.cell? ⟨(ad389.add (((ji31)).toNat * 4)).block, (ad389.add (((ji31)).toNat * 4)).off + 2, none⟩ = some (.int .i64 ((rd_T59 l2 (ji31)).f0.f2)) ∧ w'.cell? ⟨(ad389.add (((ji31)).toNat * 4)).block, (ad389.add (((ji31)).toNat * 4)).off + 3, none⟩ = some (.bool ((rd_T59 l2 (ji31)).f1))) ∧ (w'.heap[gb388]? = some (.cells #[.int .i64 ((rd_T26 l1 x40_2).f0.f0), .int .i64 ((rd_T26 l1 x40_2).f0.f1), .int .i64 ((rd_T26 l1 x40_2).f1.f0), .int .i64 ((rd_T26 l1 x40_2).f1.f1)] 26 (0, 0))) ∧ (w'.heap[s_]? = some (.cells #[.int .i64 0, .int .i64 0, .int .i64 0, .bool false] 59 (0, 0))) ∧ (w.heap.size ≤ s_) ∧ (w.heap.size ≤ s_) ∧ (gb388 ≠ s_) ∧ (s_ ≠ gb388) ∧ (Below w.heap.size w w')) ?_ ?_
               rotate_left
               ·intro hCont
                refine tw_ HT_ 7 12 (some 53) (some 14) (bv_ 15 255) (bv_ 15 4223) (fun K hK => ?_) (fun K hK => ?_)
                ·skip
                 refine gs_ Try.func195 #[.agg #[.int .i64 ((rd_T59 l2 (ji31)).f0.f0), .int .i64 ((rd_T59 l2 (ji31)).f0.f1), .int .i64 ((rd_T59 l2 (ji31)).f0.f2), .bool ((rd_T59 l2 (ji31)).f1)]] ?_ (hargs := by (try simp only [List.map_toArray, List.map_cons, List.map_nil]); first | done | (simp only [hji31]; rfl) | rfl | (simp only [List.length_drop, List.length_take]; rfl))
                 with_reducible refine (impl_opposite.calls ((rd_T59 l2 (ji31)).f0.f0) ((rd_T59 l2 (ji31)).f0.f1) ((rd_T59 l2 (ji31)).f0.f2) ((rd_T59 l2 (ji31)).f1) t390 t391 t392 t393 _ A34.out).mono ?_
                 rintro e w59 ⟨rfl, hb⟩
                 refine ⟨_, rfl, ?_⟩
                 replace BK388 := bb_ BK388 hb
                 replace HB := bt_ HB hb
                 (try clear hb)
                 (try clear hb2)
                 (try clear hk)
                 (try clear hi)
                 refine hK.out _ _ ⟨cz_ BK388 0, cz_ BK388 1, cz_ BK388 2, cz_ BK388 3, (clTr HB.out hw389_0 :), (clTr HB.out hw389_1 :), (clTr HB.out hw389_2 :), (clTr HB.out hw389_3 :)⟩ (fun hHeld => ?_)
                 clear hK K
                 refine nm_ (some 53) ?_
                 refine tw_ HT_ 8 12 (some 54) (some 14) (bv_ 15 511) (bv_ 15 4351) (fun K hK => ?_) (fun K hK => ?_)
                 ·skip
                  refine gs_ Try.func124 #[.int .i64 a0, .agg #[.int .i64 ((rd_T26 l1 x40_2).f0.f0), .int .i64 ((rd_T26 l1 x40_2).f0.f1), .int .i64 ((rd_T26 l1 x40_2).f1.f0), .int .i64 ((rd_T26 l1 x40_2).f1.f1)], .agg #[.int .i64 t390, .int .i64 t391, .int .i64 t392, .bool t393]] ?_
                  with_reducible refine (impl_moveSide.calls k2 a0 ((rd_T26 l1 x40_2).f0.f0) ((rd_T26 l1 x40_2).f0.f1) ((rd_T26 l1 x40_2).f1.f0) ((rd_T26 l1 x40_2).f1.f1) t390 t391 t392 t393 t394 t395 t396 t397 true _ A35.out).mono ?_
                  rintro e w60 ⟨rfl, hb⟩
                  refine ⟨_, rfl, ?_⟩
                  replace BK388 := bb_ BK388 hb
                  replace HB := bt_ HB hb
                  (try clear hb)
                  (try clear hb2)
                  (try clear hk)
                  (try clear hi)
                  refine hK.out _ _ ⟨cz_ BK388 0, cz_ BK388 1, cz_ BK388 2, cz_ BK388 3, (clTr HB.out hw389_0 :), (clTr HB.out hw389_1 :), (clTr HB.out hw389_2 :), (clTr HB.out hw389_3 :)⟩ (fun hHeld => ?_)
                  clear hK K
                  refine nm_ (some 54) ?_
                  refine pu_ HT_ 9 (some 45) (bv_ 15 1023) ?_
                  refine pu_ HT_ 10 (some 55) (bv_ 15 2047) ?_
                  refine pu_ HT_ 11 (some 56) (bv_ 15 4095) ?_
                  refine on_ HT_ 12 (some 14) (bv_ 15 8191) (fun K hK => ?_)
                  refine bz_ 14 #[.int .i64 0, .int .i64 0, .int .i64 0, .bool false] 59 ?_
                  intro gb399 hg w61 hbox hb
                  have BK399 := Aside0.mk (hbox)
                  have GW399 := bs_ HB hg
                  have GE399 := bs_ HB hg
                  have NB388_399 := bm_ BK388 hg
                  have NB399_388 := bn_ BK388 hg
                  replace BK388 := bb_ BK388 hb
                  replace HB := bt_ HB hb
                  clear hb hbox hg
                  refine hK.out _ _ ⟨cz_ BK388 0, cz_ BK388 1, cz_ BK388 2, cz_ BK388 3, (clTr HB.out hw389_0 :), (clTr HB.out hw389_1 :), (clTr HB.out hw389_2 :), (clTr HB.out hw389_3 :)⟩ (fun hHeld => ?_)
                  clear hK K
                  refine nm_ (some 14) ?_
                  exact norm_ (by simp only [putAll, Act.put, lstS, lstZ, lstC]) (hCont (gb399) _ ⟨hHeld, (bl_ BK388).out, (bl_ BK399).out, GW399.out, GE399.out, NB388_399.out, NB399_388.out, (bw_ HB).out⟩)
                 ·skip
                  refine bz_ 14 #[.int .i64 0, .int .i64 0, .int .i64 0, .bool false] 59 ?_
                  intro gb399 hg w60 hbox hb
                  have BK399 := Aside0.mk (hbox)
                  have GW399 := bs_ HB hg
                  have GE399 := bs_ HB hg
                  have NB388_399 := bm_ BK388 hg
                  have NB399_388 := bn_ BK388 hg
                  replace BK388 := bb_ BK388 hb
                  replace HB := bt_ HB hb
                  clear hb hbox hg
                  refine hK.out _ _ ⟨cz_ BK388 0, cz_ BK388 1, cz_ BK388 2, cz_ BK388 3, (clTr HB.out hw389_0 :), (clTr HB.out hw389_1 :), (clTr HB.out hw389_2 :), (clTr HB.out hw389_3 :)⟩ (fun hHeld => ?_)
                  clear hK K
                  refine nm_ (some 14) ?_
                  refine on_ HT_ 8 (some 54) (bv_ 15 4607) (fun K hK => ?_)
                  refine gs_ Try.func124 #[.int .i64 a0, .agg #[.int .i64 ((rd_T26 l1 x40_2).f0.f0), .int .i64 ((rd_T26 l1 x40_2).f0.f1), .int .i64 ((rd_T26 l1 x40_2).f1.f0), .int .i64 ((rd_T26 l1 x40_2).f1.f1)], .agg #[.int .i64 t390, .int .i64 t391, .int .i64 t392, .bool t393]] ?_
                  with_reducible refine (impl_moveSide.calls k2 a0 ((rd_T26 l1 x40_2).f0.f0) ((rd_T26 l1 x40_2).f0.f1) ((rd_T26 l1 x40_2).f1.f0) ((rd_T26 l1 x40_2).f1.f1) t390 t391 t392 t393 t394 t395 t396 t397 true _ A35.out).mono ?_
                  rintro e w61 ⟨rfl, hb⟩
                  refine ⟨_, rfl, ?_⟩
                  replace BK388 := bb_ BK388 hb
                  replace BK399 := bb_ BK399 hb
                  replace HB := bt_ HB hb
                  (try clear hb)
                  (try clear hb2)
                  (try clear hk)
                  (try clear hi)
                  refine hK.out _ _ ⟨cz_ BK388 0, cz_ BK388 1, cz_ BK388 2, cz_ BK388 3, (clTr HB.out hw389_0 :), (clTr HB.out hw389_1 :), (clTr HB.out hw389_2 :), (clTr HB.out hw389_3 :)⟩ (fun hHeld => ?_)
                  clear hK K
                  refine nm_ (some 54) ?_
                  refine pu_ HT_ 9 (some 45) (bv_ 15 5119) ?_
                  refine pu_ HT_ 10 (some 55) (bv_ 15 6143) ?_
                  refine pu_ HT_ 11 (some 56) (bv_ 15 8191) ?_
                  exact norm_ (by simp only [putAll, Act.put, lstS, lstZ, lstC]) (hCont (gb399) _ ⟨hHeld, (bl_ BK388).out, (bl_ BK399).out, GW399.out, GE399.out, NB388_399.out, NB399_388.out, (bw_ HB).out⟩)
                ·skip
                 refine bz_ 14 #[.int .i64 0, .int .i64 0, .int .i64 0, .bool false] 59 ?_
                 intro gb399 hg w59 hbox hb
                 have BK399 := Aside0.mk (hbox)
                 have GW399 := bs_ HB hg
                 have GE399 := bs_ HB hg
                 have NB388_399 := bm_ BK388 hg
                 have NB399_388 := bn_ BK388 hg
                 replace BK388 := bb_ BK388 hb
                 replace HB := bt_ HB hb
                 clear hb hbox hg
                 refine hK.out _ _ ⟨cz_ BK388 0, cz_ BK388 1, cz_ BK388 2, cz_ BK388 3, (clTr HB.out hw389_0 :), (clTr HB.out hw389_1 :), (clTr HB.out hw389_2 :), (clTr HB.out hw389_3 :)⟩ (fun hHeld => ?_)
                 clear hK K
                 refine nm_ (some 14) ?_
                 refine on_ HT_ 7 (some 53) (bv_ 15 4351) (fun K hK => ?_)
                 refine gs_ Try.func195 #[.agg #[.int .i64 ((rd_T59 l2 (ji31)).f0.f0), .int .i64 ((rd_T59 l2 (ji31)).f0.f1), .int .i64 ((rd_T59 l2 (ji31)).f0.f2), .bool ((rd_T59 l2 (ji31)).f1)]] ?_ (hargs := by (try simp only [List.map_toArray, List.map_cons, List.map_nil]); first | done | (simp only [hji31]; rfl) | rfl | (simp only [List.length_drop, List.length_take]; rfl))
                 with_reducible refine (impl_opposite.calls ((rd_T59 l2 (ji31)).f0.f0) ((rd_T59 l2 (ji31)).f0.f1) ((rd_T59 l2 (ji31)).f0.f2) ((rd_T59 l2 (ji31)).f1) t390 t391 t392 t393 _ A34.out).mono ?_
                 rintro e w60 ⟨rfl, hb⟩
                 refine ⟨_, rfl, ?_⟩
                 replace BK388 := bb_ BK388 hb
                 replace BK399 := bb_ BK399 hb
                 replace HB := bt_ HB hb
                 (try clear hb)
                 (try clear hb2)
                 (try clear hk)
                 (try clear hi)
                 refine hK.out _ _ ⟨cz_ BK388 0, cz_ BK388 1, cz_ BK388 2, cz_ BK388 3, (clTr HB.out hw389_0 :), (clTr HB.out hw389_1 :), (clTr HB.out hw389_2 :), (clTr HB.out hw389_3 :)⟩ (fun hHeld => ?_)
                 clear hK K
                 refine nm_ (some 53) ?_
                 refine on_ HT_ 8 (some 54) (bv_ 15 4607) (fun K hK => ?_)
                 refine gs_ Try.func124 #[.int .i64 a0, .agg #[.int .i64 ((rd_T26 l1 x40_2).f0.f0), .int .i64 ((rd_T26 l1 x40_2).f0.f1), .int .i64 ((rd_T26 l1 x40_2).f1.f0), .int .i64 ((rd_T26 l1 x40_2).f1.f1)], .agg #[.int .i64 t390, .int .i64 t391, .int .i64 t392, .bool t393]] ?_
                 with_reducible refine (impl_moveSide.calls k2 a0 ((rd_T26 l1 x40_2).f0.f0) ((rd_T26 l1 x40_2).f0.f1) ((rd_T26 l1 x40_2).f1.f0) ((rd_T26 l1 x40_2).f1.f1) t390 t391 t392 t393 t394 t395 t396 t397 true _ A35.out).mono ?_
                 rintro e w61 ⟨rfl, hb⟩
                 refine ⟨_, rfl, ?_⟩
                 replace BK388 := bb_ BK388 hb
                 replace BK399 := bb_ BK399 hb
                 replace HB := bt_ HB hb
                 (try clear hb)
                 (try clear hb2)
                 (try clear hk)
                 (try clear hi)
                 refine hK.out _ _ ⟨cz_ BK388 0, cz_ BK388 1, cz_ BK388 2, cz_ BK388 3, (clTr HB.out hw389_0 :), (clTr HB.out hw389_1 :), (clTr HB.out hw389_2 :), (clTr HB.out hw389_3 :)⟩ (fun hHeld => ?_)
                 clear hK K
                 refine nm_ (some 54) ?_
                 refine pu_ HT_ 9 (some 45) (bv_ 15 5119) ?_
                 refine pu_ HT_ 10 (some 55) (bv_ 15 6143) ?_
                 refine pu_ HT_ 11 (some 56) (bv_ 15 8191) ?_
                 exact norm_ (by simp only [putAll, Act.put, lstS, lstZ, lstC]) (hCont (gb399) _ ⟨hHeld, (bl_ BK388).out, (bl_ BK399).out, GW399.out, GE399.out, NB388_399.out, NB399_388.out, (bw_ HB).out⟩)
               rintro gb399 w62 ⟨hS_, h0_, h1_, h2_, h3_, h4_, h5_, h6_⟩
               have n0_ : Aside0 (w62.heap[gb388]? = some (.cells #[.int .i64 ((rd_T26 l1 x40_2).f0.f0), .int .i64 ((rd_T26 l1 x40_2).f0.f1), .int .i64 ((rd_T26 l1 x40_2).f1.f0), .int .i64 ((rd_T26 l1 x40_2).f1.f1)] 26 (0, 0))) := ⟨h0_⟩
               have n1_ : Aside0 (w62.heap[gb399]? = some (.cells #[.int .i64 0, .int .i64 0, .int .i64 0, .bool false] 59 (0, 0))) := ⟨h1_⟩
               have n2_ : Aside0 (w.heap.size ≤ gb399) := ⟨h2_⟩
               have n3_ : Aside0 (w.heap.size ≤ gb399) := ⟨h3_⟩
               have n4_ : Aside0 (gb388 ≠ gb399) := ⟨h4_⟩
               have n5_ : Aside0 (gb399 ≠ gb388) := ⟨h5_⟩
               have n6_ : Aside0 (Below w.heap.size w w62) := ⟨h6_⟩
               clear BK388
               clear HB
               clear h0_ h1_ h2_ h3_ h4_ h5_ h6_
               have BK388 := n0_
               have BK399 := n1_
               have GW399 := n2_
               have GE399 := n3_
               have NB388_399 := n4_
               have NB399_388 := n5_
               have HB := n6_
               clear n0_ n1_ n2_ n3_ n4_ n5_ n6_
               have hHeld : w62.cell? ⟨gb388, 0, none⟩ = some (.int .i64 ((rd_T26 l1 x40_2).f0.f0)) ∧ w62.cell? ⟨gb388, 1, none⟩ = some (.int .i64 ((rd_T26 l1 x40_2).f0.f1)) ∧ w62.cell? ⟨gb388, 2, none⟩ = some (.int .i64 ((rd_T26 l1 x40_2).f1.f0)) ∧ w62.cell? ⟨gb388, 3, none⟩ = some (.int .i64 ((rd_T26 l1 x40_2).f1.f1)) ∧ w62.cell? (ad389.add (((ji31)).toNat * 4)) = some (.int .i64 ((rd_T59 l2 (ji31)).f0.f0)) ∧ w62.cell? ⟨(ad389.add (((ji31)).toNat * 4)).block, (ad389.add (((ji31)).toNat * 4)).off + 1, none⟩ = some (.int .i64 ((rd_T59 l2 (ji31)).f0.f1)) ∧ w62.cell? ⟨(ad389.add (((ji31)).toNat * 4)).block, (ad389.add (((ji31)).toNat * 4)).off + 2, none⟩ = some (.int .i64 ((rd_T59 l2 (ji31)).f0.f2)) ∧ w62.cell? ⟨(ad389.add (((ji31)).toNat * 4)).block, (ad389.add (((ji31)).toNat * 4)).off + 3, none⟩ = some (.bool ((rd_T59 l2 (ji31)).f1)) := hS_
               refine norm_ (a' := ?_) ?_ ?_
               rotate_left
               ·simp only [putAll, Act.put, lstS, lstZ, lstC]
                rfl
               refine on_ HT_ 13 none (bv_ 15 16383) (fun K hK => ?_)
               have hs63 : w62.cell? ⟨gb399, 0, none⟩ = some (.int .i64 0) := (blk_cell BK399.out 0).trans rfl
               have hfs63 := blk_frozen BK399.out 0
               have hns63_0 := NB388_399.out
               have hms63_0 := NB399_388.out
               have hs64 : w62.cell? ⟨gb399, 1, none⟩ = some (.int .i64 0) := (blk_cell BK399.out 1).trans rfl
               have hfs64 := blk_frozen BK399.out 1
               have hns64_0 := NB388_399.out
               have hms64_0 := NB399_388.out
               have hs65 : w62.cell? ⟨gb399, 2, none⟩ = some (.int .i64 0) := (blk_cell BK399.out 2).trans rfl
               have hfs65 := blk_frozen BK399.out 2
               have hns65_0 := NB388_399.out
               have hms65_0 := NB399_388.out
               have hs66 : w62.cell? ⟨gb399, 3, none⟩ = some (.bool false) := (blk_cell BK399.out 3).trans rfl
               have hfs66 := blk_frozen BK399.out 3
               have hns66_0 := NB388_399.out
               have hms66_0 := NB399_388.out
               refine skip_ (w1 := ?_) (by rfl) rfl ?_ ?_
               rotate_left
               ·go_simp
                rfl
               refine hK.out _ _ ⟨(cg_ NB388_399 ((cg_ NB388_399 ((cg_ NB388_399 ((cg_ NB388_399 (hHeld.1)))))))), (cg_ NB388_399 ((cg_ NB388_399 ((cg_ NB388_399 ((cg_ NB388_399 (hHeld.2.1)))))))), (cg_ NB388_399 ((cg_ NB388_399 ((cg_ NB388_399 ((cg_ NB388_399 (hHeld.2.2.1)))))))), (cg_ NB388_399 ((cg_ NB388_399 ((cg_ NB388_399 ((cg_ NB388_399 (hHeld.2.2.2.1)))))))), (cf_ hw389_0 GW399 ((cf_ hw389_0 GW399 ((cf_ hw389_0 GW399 ((cf_ hw389_0 GW399 (hHeld.2.2.2.2.1)))))))), (cf_ hw389_1 GW399 ((cf_ hw389_1 GW399 ((cf_ hw389_1 GW399 ((cf_ hw389_1 GW399 (hHeld.2.2.2.2.2.1)))))))), (cf_ hw389_2 GW399 ((cf_ hw389_2 GW399 ((cf_ hw389_2 GW399 ((cf_ hw389_2 GW399 (hHeld.2.2.2.2.2.2.1)))))))), (cf_ hw389_3 GW399 ((cf_ hw389_3 GW399 ((cf_ hw389_3 GW399 ((cf_ hw389_3 GW399 (hHeld.2.2.2.2.2.2.2))))))))⟩ (fun hHeld => ?_)
               clear hK K
               refine pu_ HT_ 14 (some 15) (bv_ 15 32767) ?_
               refine done_ (done_of HT_.out (by kernel_rfl)) ?_
               try go_wp2
               have n0_ : Aside0 (((((w62.setCell ⟨gb399, 0, none⟩ (.int .i64 t394)).setCell ⟨gb399, 1, none⟩ (.int .i64 t395)).setCell ⟨gb399, 2, none⟩ (.int .i64 t396)).setCell ⟨gb399, 3, none⟩ (.bool t397)).heap[gb388]? = some (.cells #[.int .i64 ((rd_T26 l1 x40_2).f0.f0), .int .i64 ((rd_T26 l1 x40_2).f0.f1), .int .i64 ((rd_T26 l1 x40_2).f1.f0), .int .i64 ((rd_T26 l1 x40_2).f1.f1)] 26 (0, 0))) := fl_ BK388 NB388_399
               have n1_ : Aside0 (((((w62.setCell ⟨gb399, 0, none⟩ (.int .i64 t394)).setCell ⟨gb399, 1, none⟩ (.int .i64 t395)).setCell ⟨gb399, 2, none⟩ (.int .i64 t396)).setCell ⟨gb399, 3, none⟩ (.bool t397)).heap[gb399]? = some (.cells #[.int .i64 t394, .int .i64 t395, .int .i64 t396, .bool t397] 59 (0, 0))) := bp_ BK399
               have n2_ : Aside0 (Below w.heap.size w ((((w62.setCell ⟨gb399, 0, none⟩ (.int .i64 t394)).setCell ⟨gb399, 1, none⟩ (.int .i64 t395)).setCell ⟨gb399, 2, none⟩ (.int .i64 t396)).setCell ⟨gb399, 3, none⟩ (.bool t397))) := bw_ HB
               (try clear BK388)
               (try clear BK399)
               (try clear HB)
               generalize ((((w62.setCell ⟨gb399, 0, none⟩ (.int .i64 t394)).setCell ⟨gb399, 1, none⟩ (.int .i64 t395)).setCell ⟨gb399, 2, none⟩ (.int .i64 t396)).setCell ⟨gb399, 3, none⟩ (.bool t397)) = w67 at n0_ n1_ n2_ ⊢
               have BK388 := n0_
               have BK399 := n1_
               have HB := n2_
               clear n0_ n1_ n2_
               replace BK388 := Aside0.mk (blk_drew BK388.out)
               replace BK399 := Aside0.mk (blk_drew BK399.out)
               replace HB := Aside0.mk (below_drew1 HB.out)
               have p400 : 0 ≤ ((ji37) : Int) := od_
               have q400 : (ji37) < (l2.length : Int) := od_
               obtain ⟨ad400, e400, hx400_0, hx400_1, hx400_2, hx400_3⟩ := at_T59 HR2.out (ji37) p400 q400
               have hw400_3 := hx400_3
               have hw400_2 := hx400_2
               have hw400_1 := hx400_1
               have hw400_0 := hx400_0
               obtain rfl : ad389 = ad400 := (by injection e400)
               replace hx400_0 := clTr HB.out hx400_0
               replace hx400_1 := clTr HB.out hx400_1
               replace hx400_2 := clTr HB.out hx400_2
               replace hx400_3 := clTr HB.out hx400_3
               replace p400 := eq_true p400
               replace q400 := eq_true q400
               refine start_ (n := 9) (S := fun w' => w'.cell? ⟨gb399, 0, none⟩ = some (.int .i64 t394) ∧ w'.cell? ⟨gb399, 1, none⟩ = some (.int .i64 t395) ∧ w'.cell? ⟨gb399, 2, none⟩ = some (.int .i64 t396) ∧ w'.cell? ⟨gb399, 3, none⟩ = some (.bool t397) ∧ w'.cell? (ad389.add (((ji37)).toNat * 4)) = some (.int .i64 ((rd_T59 l2 (ji37)).f0.f0)) ∧ w'.cell? ⟨(ad389.add (((ji37)).toNat * 4)).block, (ad389.add (((ji37)).toNat * 4)).off + 1, none⟩ = some (.int .i64 ((rd_T59 l2 (ji37)).f0.f1)) ∧ w'.cell? ⟨(ad389.add (((ji37)).toNat * 4)).block, (ad389.add (((ji37)).toNat * 4)).off + 2, none⟩ = some (.int .i64 ((rd_T59 l2 (ji37)).f0.f2)) ∧ w'.cell? ⟨(ad389.add (((ji37)).toNat * 4)).block, (ad389.add (((ji37)).toNat * 4)).off + 3, none⟩ = some (.bool ((rd_T59 l2 (ji37)).f1))) (ds := []) (bv_ 9 0) (by kernel_rfl) rfl rfl ⟨cz_ BK399 0, cz_ BK399 1, cz_ BK399 2, cz_ BK399 3, (clTr HB.out hw400_0 :), (clTr HB.out hw400_1 :), (clTr HB.out hw400_2 :), (clTr HB.out hw400_3 :)⟩ (fun hHeld => ?_); refine with_tabW impl_isFree.tab17 impl_isFree.bits17 (fun HT_ HW_ => ?_)
               generalize w67.drew = w68 at BK388 BK399 HB hx400_0 hx400_1 hx400_2 hx400_3 hHeld ⊢
               refine pu_ HT_ 1 (some 62) (bv_ 9 2) ?_
               refine pu_ HT_ 2 (some 63) (bv_ 9 6) ?_
               refine pu_ HT_ 3 (some 64) (bv_ 9 14) ?_
               refine pu_ HT_ 4 (some 65) (bv_ 9 30) ?_
               refine pu_ HT_ 5 (some 66) (bv_ 9 62) ?_
               refine ta_ HT_ HW_ 0 (some 61) (bv_ 9 63) hHeld ?_ (hy := by rintro w' ⟨s0, s1, s2, s3, s4, s5, s6, s7⟩; go_simp; with_reducible rfl)
               refine ta_ HT_ HW_ 6 (some 67) (bv_ 9 127) hHeld ?_ (hy := by rintro w' ⟨s0, s1, s2, s3, s4, s5, s6, s7⟩; go_simp; with_reducible rfl)
               refine pu_ HT_ 7 (some 68) (bv_ 9 255) ?_
               refine pu_ HT_ 8 (some 60) (bv_ 9 511) ?_
               refine done_ (done_of HT_.out (by kernel_rfl)) ?_
               try go_wp2
               go_roundg k2
               case measure => have := HK1.out; have := HK2.out; omega
               case rel => exact ⟨(wrap64 (x40_2 + 1)), en_, H', ⟨by have := HK1.out; have := HK2.out; omega⟩, bw_ HB⟩
             ·rw [if_neg c39] at H
              exact absurd H (by simp)
            ·rw [if_neg c38] at H
             exact absurd H (by simp)
           ·replace c36 := Bool.eq_false_iff.mpr c36
            subst c36
            have H1 : (some (false, 3)) = some (r1, r2) := by rw [if_neg (show ¬ (false = true) by decide)] at H; exact H
            clear H
            have H := H1
            clear H1
            simp only [Option.some.injEq, Prod.mk.injEq] at H
            obtain ⟨rfl, rfl⟩ := H
            have p387 : 0 ≤ (x40_2 : Int) := od_
            have q387 : x40_2 < (l1.length : Int) := od_
            obtain ⟨ad387, e387, hx387_0, hx387_1, hx387_2, hx387_3⟩ := at_T26 HR1.out x40_2 p387 q387
            cases e387
            replace hx387_0 := clTr HB.out hx387_0
            replace hx387_1 := clTr HB.out hx387_1
            replace hx387_2 := clTr HB.out hx387_2
            replace hx387_3 := clTr HB.out hx387_3
            replace p387 := eq_true p387
            replace q387 := eq_true q387
            try go_wp2_with (first | (refine bx_ 13 #[.int .i64 0, .int .i64 0, .int .i64 0, .int .i64 0] 26 ?_; intro gb388 hg w69 hbox hb; have BK388 := Aside0.mk (hbox); have GW388 := bs_ HB hg; have GE388 := bs_ HB hg; replace HB := bt_ HB hb; clear hb hbox hg; obtain ⟨hcz70_0, hcz70_1, hcz70_2, hcz70_3, hfz70_0, hfz70_1, hfz70_2, hfz70_3⟩ := ch4_ BK388))
            have n0_ : Aside0 (((((w69.setCell ⟨gb388, 0, none⟩ (.int .i64 ((rd_T26 l1 x40_2).f0.f0))).setCell ⟨gb388, 1, none⟩ (.int .i64 ((rd_T26 l1 x40_2).f0.f1))).setCell ⟨gb388, 2, none⟩ (.int .i64 ((rd_T26 l1 x40_2).f1.f0))).setCell ⟨gb388, 3, none⟩ (.int .i64 ((rd_T26 l1 x40_2).f1.f1))).heap[gb388]? = some (.cells #[.int .i64 ((rd_T26 l1 x40_2).f0.f0), .int .i64 ((rd_T26 l1 x40_2).f0.f1), .int .i64 ((rd_T26 l1 x40_2).f1.f0), .int .i64 ((rd_T26 l1 x40_2).f1.f1)] 26 (0, 0))) := bp_ BK388
            have n1_ : Aside0 (Below w.heap.size w ((((w69.setCell ⟨gb388, 0, none⟩ (.int .i64 ((rd_T26 l1 x40_2).f0.f0))).setCell ⟨gb388, 1, none⟩ (.int .i64 ((rd_T26 l1 x40_2).f0.f1))).setCell ⟨gb388, 2, none⟩ (.int .i64 ((rd_T26 l1 x40_2).f1.f0))).setCell ⟨gb388, 3, none⟩ (.int .i64 ((rd_T26 l1 x40_2).f1.f1)))) := bw_ HB
            (try clear BK388)
            (try clear HB)
            generalize ((((w69.setCell ⟨gb388, 0, none⟩ (.int .i64 ((rd_T26 l1 x40_2).f0.f0))).setCell ⟨gb388, 1, none⟩ (.int .i64 ((rd_T26 l1 x40_2).f0.f1))).setCell ⟨gb388, 2, none⟩ (.int .i64 ((rd_T26 l1 x40_2).f1.f0))).setCell ⟨gb388, 3, none⟩ (.int .i64 ((rd_T26 l1 x40_2).f1.f1))) = w71 at n0_ n1_ ⊢
            have BK388 := n0_
            have HB := n1_
            clear n0_ n1_
            replace BK388 := Aside0.mk (blk_drew BK388.out)
            replace HB := Aside0.mk (below_drew1 HB.out)
            have p389 : 0 ≤ ((ji31) : Int) := od_
            have q389 : (ji31) < (l2.length : Int) := od_
            obtain ⟨ad389, e389, hx389_0, hx389_1, hx389_2, hx389_3⟩ := at_T59 HR2.out (ji31) p389 q389
            have hw389_3 := hx389_3
            have hw389_2 := hx389_2
            have hw389_1 := hx389_1
            have hw389_0 := hx389_0
            cases e389
            replace hx389_0 := clTr HB.out hx389_0
            replace hx389_1 := clTr HB.out hx389_1
            replace hx389_2 := clTr HB.out hx389_2
            replace hx389_3 := clTr HB.out hx389_3
            replace p389 := eq_true p389
            replace q389 := eq_true q389
            refine start_ (n := 15) (S := fun w' => w'.cell? ⟨gb388, 0, none⟩ = some (.int .i64 ((rd_T26 l1 x40_2).f0.f0)) ∧ w'.cell? ⟨gb388, 1, none⟩ = some (.int .i64 ((rd_T26 l1 x40_2).f0.f1)) ∧ w'.cell? ⟨gb388, 2, none⟩ = some (.int .i64 ((rd_T26 l1 x40_2).f1.f0)) ∧ w'.cell? ⟨gb388, 3, none⟩ = some (.int .i64 ((rd_T26 l1 x40_2).f1.f1)) ∧ w'.cell? (ad389.add (((ji31)).toNat * 4)) = some (.int .i64 ((rd_T59 l2 (ji31)).f0.f0)) ∧ w'.cell? ⟨(ad389.add (((ji31)).toNat * 4)).block, (ad389.add (((ji31)).toNat * 4)).off + 1, none⟩ = some (.int .i64 ((rd_T59 l2 (ji31)).f0.f1)) ∧ w'.cell? ⟨(ad389.add (((ji31)).toNat * 4)).block, (ad389.add (((ji31)).toNat * 4)).off + 2, none⟩ = some (.int .i64 ((rd_T59 l2 (ji31)).f0.f2)) ∧ w'.cell? ⟨(ad389.add (((ji31)).toNat * 4)).block, (ad389.add (((ji31)).toNat * 4)).off + 3, none⟩ = some (.bool ((rd_T59 l2 (ji31)).f1))) (ds := []) (bv_ 15 0) (by kernel_rfl) rfl rfl ⟨cz_ BK388 0, cz_ BK388 1, cz_ BK388 2, cz_ BK388 3, (clTr HB.out hw389_0 :), (clTr HB.out hw389_1 :), (clTr HB.out hw389_2 :), (clTr HB.out hw389_3 :)⟩ (fun hHeld => ?_); refine with_tabW impl_isFree.tab14 impl_isFree.bits14 (fun HT_ HW_ => ?_)
            generalize w71.drew = w72 at BK388 HB hx389_0 hx389_1 hx389_2 hx389_3 hHeld ⊢
            refine pu_ HT_ 0 (some 46) (bv_ 15 1) ?_
            refine pu_ HT_ 2 (some 48) (bv_ 15 5) ?_
            refine pu_ HT_ 3 (some 49) (bv_ 15 13) ?_
            refine pu_ HT_ 4 (some 50) (bv_ 15 29) ?_
            refine pu_ HT_ 5 (some 51) (bv_ 15 61) ?_
            refine ta_ HT_ HW_ 1 (some 47) (bv_ 15 63) hHeld ?_ (hy := by rintro w' ⟨s0, s1, s2, s3, s4, s5, s6, s7⟩; go_simp; with_reducible rfl)
            refine ta_ HT_ HW_ 6 (some 52) (bv_ 15 127) hHeld ?_ (hy := by rintro w' ⟨s0, s1, s2, s3, s4, s5, s6, s7⟩; go_simp; with_reducible rfl)
            refine join_ (σ := Nat) 2 (bv_ 15 8191) (fun s_ => [(53, .agg #[.int .i64 t390, .int .i64 t391, .int .i64 t392, .bool t393]), (54, .tuple #[.agg #[.int .i64 t394, .int .i64 t395, .int .i64 t396, .bool t397], .bool false]), (14, .pointer (some ⟨s_, 0, none⟩)), (45, .tuple #[.agg #[.int .i64 t394, .int .i64 t395, .int .i64 t396, .bool t397], .bool false]), (55, .agg #[.int .i64 t394, .int .i64 t395, .int .i64 t396, .bool t397]), (56, .bool false)]) (fun s_ w' => (w'.cell? ⟨gb388, 0, none⟩ = some (.int .i64 ((rd_T26 l1 x40_2).f0.f0)) ∧ w'.cell? ⟨gb388, 1, none⟩ = some (.int .i64 ((rd_T26 l1 x40_2).f0.f1)) ∧ w'.cell? ⟨gb388, 2, none⟩ = some (.int .i64 ((rd_T26 l1 x40_2).f1.f0)) ∧ w'.cell? ⟨gb388, 3, none⟩ = some (.int .i64 ((rd_T26 l1 x40_2).f1.f1)) ∧ w'.cell? (ad389.add (((ji31)).toNat * 4)) = some (.int .i64 ((rd_T59 l2 (ji31)).f0.f0)) ∧ w'.cell? ⟨(ad389.add (((ji31)).toNat * 4)).block, (ad389.add (((ji31)).toNat * 4)).off + 1, none⟩ = some (.int .i64 ((rd_T59 l2 (ji31)).f0.f1)) ∧ w'.cell? ⟨(ad389.add (((ji31)).toNat * 4)).block, (ad389.add (((ji31)).toNat * 4)).off + 2, none⟩ = some (.int .i64 ((rd_T59 l2 (ji31)).f0.f2)) ∧ w'.cell? ⟨(ad389.add (((ji31)).toNat * 4)).block, (ad389.add (((ji31)).toNat * 4)).off + 3, none⟩ = some (.bool ((rd_T59 l2 (ji31)).f1))) ∧ (w'.heap[gb388]? = some (.cells #[.int .i64 ((rd_T26 l1 x40_2).f0.f0), .int .i64 ((rd_T26 l1 x40_2).f0.f1), .int .i64 ((rd_T26 l1 x40_2).f1.f0), .int .i64 ((rd_T26 l1 x40_2).f1.f1)] 26 (0, 0))) ∧ (w'.heap[s_]? = some (.cells #[.int .i64 0, .int .i64 0, .int .i64 0, .bool false] 59 (0, 0))) ∧ (w.heap.size ≤ s_) ∧ (w.heap.size ≤ s_) ∧ (gb388 ≠ s_) ∧ (s_ ≠ gb388) ∧ (Below w.heap.size w w')) ?_ ?_
            rotate_left
            ·intro hCont
             refine tw_ HT_ 7 12 (some 53) (some 14) (bv_ 15 255) (bv_ 15 4223) (fun K hK => ?_) (fun K hK => ?_)
             ·skip
              refine gs_ Try.func195 #[.agg #[.int .i64 ((rd_T59 l2 (ji31)).f0.f0), .int .i64 ((rd_T59 l2 (ji31)).f0.f1), .int .i64 ((rd_T59 l2 (ji31)).f0.f2), .bool ((rd_T59 l2 (ji31)).f1)]] ?_ (hargs := by (try simp only [List.map_toArray, List.map_cons, List.map_nil]); first | done | (simp only [hji31]; rfl) | rfl | (simp only [List.length_drop, List.length_take]; rfl))
              with_reducible refine (impl_opposite.calls ((rd_T59 l2 (ji31)).f0.f0) ((rd_T59 l2 (ji31)).f0.f1) ((rd_T59 l2 (ji31)).f0.f2) ((rd_T59 l2 (ji31)).f1) t390 t391 t392 t393 _ A34.out).mono ?_
              rintro e w73 ⟨rfl, hb⟩
              refine ⟨_, rfl, ?_⟩
              replace BK388 := bb_ BK388 hb
              replace HB := bt_ HB hb
              (try clear hb)
              (try clear hb2)
              (try clear hk)
              (try clear hi)
              refine hK.out _ _ ⟨cz_ BK388 0, cz_ BK388 1, cz_ BK388 2, cz_ BK388 3, (clTr HB.out hw389_0 :), (clTr HB.out hw389_1 :), (clTr HB.out hw389_2 :), (clTr HB.out hw389_3 :)⟩ (fun hHeld => ?_)
              clear hK K
              refine nm_ (some 53) ?_
              refine tw_ HT_ 8 12 (some 54) (some 14) (bv_ 15 511) (bv_ 15 4351) (fun K hK => ?_) (fun K hK => ?_)
              ·skip
               refine gs_ Try.func124 #[.int .i64 a0, .agg #[.int .i64 ((rd_T26 l1 x40_2).f0.f0), .int .i64 ((rd_T26 l1 x40_2).f0.f1), .int .i64 ((rd_T26 l1 x40_2).f1.f0), .int .i64 ((rd_T26 l1 x40_2).f1.f1)], .agg #[.int .i64 t390, .int .i64 t391, .int .i64 t392, .bool t393]] ?_
               with_reducible refine (impl_moveSide.calls k2 a0 ((rd_T26 l1 x40_2).f0.f0) ((rd_T26 l1 x40_2).f0.f1) ((rd_T26 l1 x40_2).f1.f0) ((rd_T26 l1 x40_2).f1.f1) t390 t391 t392 t393 t394 t395 t396 t397 false _ A35.out).mono ?_
               rintro e w74 ⟨rfl, hb⟩
               refine ⟨_, rfl, ?_⟩
               replace BK388 := bb_ BK388 hb
               replace HB := bt_ HB hb
               (try clear hb)
               (try clear hb2)
               (try clear hk)
               (try clear hi)
               refine hK.out _ _ ⟨cz_ BK388 0, cz_ BK388 1, cz_ BK388 2, cz_ BK388 3, (clTr HB.out hw389_0 :), (clTr HB.out hw389_1 :), (clTr HB.out hw389_2 :), (clTr HB.out hw389_3 :)⟩ (fun hHeld => ?_)
               clear hK K
               refine nm_ (some 54) ?_
               refine pu_ HT_ 9 (some 45) (bv_ 15 1023) ?_
               refine pu_ HT_ 10 (some 55) (bv_ 15 2047) ?_
               refine pu_ HT_ 11 (some 56) (bv_ 15 4095) ?_
               refine on_ HT_ 12 (some 14) (bv_ 15 8191) (fun K hK => ?_)
               refine bz_ 14 #[.int .i64 0, .int .i64 0, .int .i64 0, .bool false] 59 ?_
               intro gb399 hg w75 hbox hb
               have BK399 := Aside0.mk (hbox)
               have GW399 := bs_ HB hg
               have GE399 := bs_ HB hg
               have NB388_399 := bm_ BK388 hg
               have NB399_388 := bn_ BK388 hg
               replace BK388 := bb_ BK388 hb
               replace HB := bt_ HB hb
               clear hb hbox hg
               refine hK.out _ _ ⟨cz_ BK388 0, cz_ BK388 1, cz_ BK388 2, cz_ BK388 3, (clTr HB.out hw389_0 :), (clTr HB.out hw389_1 :), (clTr HB.out hw389_2 :), (clTr HB.out hw389_3 :)⟩ (fun hHeld => ?_)
               clear hK K
               refine nm_ (some 14) ?_
               exact norm_ (by simp only [putAll, Act.put, lstS, lstZ, lstC]) (hCont (gb399) _ ⟨hHeld, (bl_ BK388).out, (bl_ BK399).out, GW399.out, GE399.out, NB388_399.out, NB399_388.out, (bw_ HB).out⟩)
              ·skip
               refine bz_ 14 #[.int .i64 0, .int .i64 0, .int .i64 0, .bool false] 59 ?_
               intro gb399 hg w74 hbox hb
               have BK399 := Aside0.mk (hbox)
               have GW399 := bs_ HB hg
               have GE399 := bs_ HB hg
               have NB388_399 := bm_ BK388 hg
               have NB399_388 := bn_ BK388 hg
               replace BK388 := bb_ BK388 hb
               replace HB := bt_ HB hb
               clear hb hbox hg
               refine hK.out _ _ ⟨cz_ BK388 0, cz_ BK388 1, cz_ BK388 2, cz_ BK388 3, (clTr HB.out hw389_0 :), (clTr HB.out hw389_1 :), (clTr HB.out hw389_2 :), (clTr HB.out hw389_3 :)⟩ (fun hHeld => ?_)
               clear hK K
               refine nm_ (some 14) ?_
               refine on_ HT_ 8 (some 54) (bv_ 15 4607) (fun K hK => ?_)
               refine gs_ Try.func124 #[.int .i64 a0, .agg #[.int .i64 ((rd_T26 l1 x40_2).f0.f0), .int .i64 ((rd_T26 l1 x40_2).f0.f1), .int .i64 ((rd_T26 l1 x40_2).f1.f0), .int .i64 ((rd_T26 l1 x40_2).f1.f1)], .agg #[.int .i64 t390, .int .i64 t391, .int .i64 t392, .bool t393]] ?_
               with_reducible refine (impl_moveSide.calls k2 a0 ((rd_T26 l1 x40_2).f0.f0) ((rd_T26 l1 x40_2).f0.f1) ((rd_T26 l1 x40_2).f1.f0) ((rd_T26 l1 x40_2).f1.f1) t390 t391 t392 t393 t394 t395 t396 t397 false _ A35.out).mono ?_
               rintro e w75 ⟨rfl, hb⟩
               refine ⟨_, rfl, ?_⟩
               replace BK388 := bb_ BK388 hb
               replace BK399 := bb_ BK399 hb
               replace HB := bt_ HB hb
               (try clear hb)
               (try clear hb2)
               (try clear hk)
               (try clear hi)
               refine hK.out _ _ ⟨cz_ BK388 0, cz_ BK388 1, cz_ BK388 2, cz_ BK388 3, (clTr HB.out hw389_0 :), (clTr HB.out hw389_1 :), (clTr HB.out hw389_2 :), (clTr HB.out hw389_3 :)⟩ (fun hHeld => ?_)
               clear hK K
               refine nm_ (some 54) ?_
               refine pu_ HT_ 9 (some 45) (bv_ 15 5119) ?_
               refine pu_ HT_ 10 (some 55) (bv_ 15 6143) ?_
               refine pu_ HT_ 11 (some 56) (bv_ 15 8191) ?_
               exact norm_ (by simp only [putAll, Act.put, lstS, lstZ, lstC]) (hCont (gb399) _ ⟨hHeld, (bl_ BK388).out, (bl_ BK399).out, GW399.out, GE399.out, NB388_399.out, NB399_388.out, (bw_ HB).out⟩)
             ·skip
              refine bz_ 14 #[.int .i64 0, .int .i64 0, .int .i64 0, .bool false] 59 ?_
              intro gb399 hg w73 hbox hb
              have BK399 := Aside0.mk (hbox)
              have GW399 := bs_ HB hg
              have GE399 := bs_ HB hg
              have NB388_399 := bm_ BK388 hg
              have NB399_388 := bn_ BK388 hg
              replace BK388 := bb_ BK388 hb
              replace HB := bt_ HB hb
              clear hb hbox hg
              refine hK.out _ _ ⟨cz_ BK388 0, cz_ BK388 1, cz_ BK388 2, cz_ BK388 3, (clTr HB.out hw389_0 :), (clTr HB.out hw389_1 :), (clTr HB.out hw389_2 :), (clTr HB.out hw389_3 :)⟩ (fun hHeld => ?_)
              clear hK K
              refine nm_ (some 14) ?_
              refine on_ HT_ 7 (some 53) (bv_ 15 4351) (fun K hK => ?_)
              refine gs_ Try.func195 #[.agg #[.int .i64 ((rd_T59 l2 (ji31)).f0.f0), .int .i64 ((rd_T59 l2 (ji31)).f0.f1), .int .i64 ((rd_T59 l2 (ji31)).f0.f2), .bool ((rd_T59 l2 (ji31)).f1)]] ?_ (hargs := by (try simp only [List.map_toArray, List.map_cons, List.map_nil]); first | done | (simp only [hji31]; rfl) | rfl | (simp only [List.length_drop, List.length_take]; rfl))
              with_reducible refine (impl_opposite.calls ((rd_T59 l2 (ji31)).f0.f0) ((rd_T59 l2 (ji31)).f0.f1) ((rd_T59 l2 (ji31)).f0.f2) ((rd_T59 l2 (ji31)).f1) t390 t391 t392 t393 _ A34.out).mono ?_
              rintro e w74 ⟨rfl, hb⟩
              refine ⟨_, rfl, ?_⟩
              replace BK388 := bb_ BK388 hb
              replace BK399 := bb_ BK399 hb
              replace HB := bt_ HB hb
              (try clear hb)
              (try clear hb2)
              (try clear hk)
              (try clear hi)
              refine hK.out _ _ ⟨cz_ BK388 0, cz_ BK388 1, cz_ BK388 2, cz_ BK388 3, (clTr HB.out hw389_0 :), (clTr HB.out hw389_1 :), (clTr HB.out hw389_2 :), (clTr HB.out hw389_3 :)⟩ (fun hHeld => ?_)
              clear hK K
              refine nm_ (some 53) ?_
              refine on_ HT_ 8 (some 54) (bv_ 15 4607) (fun K hK => ?_)
              refine gs_ Try.func124 #[.int .i64 a0, .agg #[.int .i64 ((rd_T26 l1 x40_2).f0.f0), .int .i64 ((rd_T26 l1 x40_2).f0.f1), .int .i64 ((rd_T26 l1 x40_2).f1.f0), .int .i64 ((rd_T26 l1 x40_2).f1.f1)], .agg #[.int .i64 t390, .int .i64 t391, .int .i64 t392, .bool t393]] ?_
              with_reducible refine (impl_moveSide.calls k2 a0 ((rd_T26 l1 x40_2).f0.f0) ((rd_T26 l1 x40_2).f0.f1) ((rd_T26 l1 x40_2).f1.f0) ((rd_T26 l1 x40_2).f1.f1) t390 t391 t392 t393 t394 t395 t396 t397 false _ A35.out).mono ?_
              rintro e w75 ⟨rfl, hb⟩
              refine ⟨_, rfl, ?_⟩
              replace BK388 := bb_ BK388 hb
              replace BK399 := bb_ BK399 hb
              replace HB := bt_ HB hb
              (try clear hb)
              (try clear hb2)
              (try clear hk)
              (try clear hi)
              refine hK.out _ _ ⟨cz_ BK388 0, cz_ BK388 1, cz_ BK388 2, cz_ BK388 3, (clTr HB.out hw389_0 :), (clTr HB.out hw389_1 :), (clTr HB.out hw389_2 :), (clTr HB.out hw389_3 :)⟩ (fun hHeld => ?_)
              clear hK K
              refine nm_ (some 54) ?_
              refine pu_ HT_ 9 (some 45) (bv_ 15 5119) ?_
              refine pu_ HT_ 10 (some 55) (bv_ 15 6143) ?_
              refine pu_ HT_ 11 (some 56) (bv_ 15 8191) ?_
              exact norm_ (by simp only [putAll, Act.put, lstS, lstZ, lstC]) (hCont (gb399) _ ⟨hHeld, (bl_ BK388).out, (bl_ BK399).out, GW399.out, GE399.out, NB388_399.out, NB399_388.out, (bw_ HB).out⟩)
            rintro gb399 w76 ⟨hS_, h0_, h1_, h2_, h3_, h4_, h5_, h6_⟩
            have n0_ : Aside0 (w76.heap[gb388]? = some (.cells #[.int .i64 ((rd_T26 l1 x40_2).f0.f0), .int .i64 ((rd_T26 l1 x40_2).f0.f1), .int .i64 ((rd_T26 l1 x40_2).f1.f0), .int .i64 ((rd_T26 l1 x40_2).f1.f1)] 26 (0, 0))) := ⟨h0_⟩
            have n1_ : Aside0 (w76.heap[gb399]? = some (.cells #[.int .i64 0, .int .i64 0, .int .i64 0, .bool false] 59 (0, 0))) := ⟨h1_⟩
            have n2_ : Aside0 (w.heap.size ≤ gb399) := ⟨h2_⟩
            have n3_ : Aside0 (w.heap.size ≤ gb399) := ⟨h3_⟩
            have n4_ : Aside0 (gb388 ≠ gb399) := ⟨h4_⟩
            have n5_ : Aside0 (gb399 ≠ gb388) := ⟨h5_⟩
            have n6_ : Aside0 (Below w.heap.size w w76) := ⟨h6_⟩
            clear BK388
            clear HB
            clear h0_ h1_ h2_ h3_ h4_ h5_ h6_
            have BK388 := n0_
            have BK399 := n1_
            have GW399 := n2_
            have GE399 := n3_
            have NB388_399 := n4_
            have NB399_388 := n5_
            have HB := n6_
            clear n0_ n1_ n2_ n3_ n4_ n5_ n6_
            have hHeld : w76.cell? ⟨gb388, 0, none⟩ = some (.int .i64 ((rd_T26 l1 x40_2).f0.f0)) ∧ w76.cell? ⟨gb388, 1, none⟩ = some (.int .i64 ((rd_T26 l1 x40_2).f0.f1)) ∧ w76.cell? ⟨gb388, 2, none⟩ = some (.int .i64 ((rd_T26 l1 x40_2).f1.f0)) ∧ w76.cell? ⟨gb388, 3, none⟩ = some (.int .i64 ((rd_T26 l1 x40_2).f1.f1)) ∧ w76.cell? (ad389.add (((ji31)).toNat * 4)) = some (.int .i64 ((rd_T59 l2 (ji31)).f0.f0)) ∧ w76.cell? ⟨(ad389.add (((ji31)).toNat * 4)).block, (ad389.add (((ji31)).toNat * 4)).off + 1, none⟩ = some (.int .i64 ((rd_T59 l2 (ji31)).f0.f1)) ∧ w76.cell? ⟨(ad389.add (((ji31)).toNat * 4)).block, (ad389.add (((ji31)).toNat * 4)).off + 2, none⟩ = some (.int .i64 ((rd_T59 l2 (ji31)).f0.f2)) ∧ w76.cell? ⟨(ad389.add (((ji31)).toNat * 4)).block, (ad389.add (((ji31)).toNat * 4)).off + 3, none⟩ = some (.bool ((rd_T59 l2 (ji31)).f1)) := hS_
            refine norm_ (a' := ?_) ?_ ?_
            rotate_left
            ·simp only [putAll, Act.put, lstS, lstZ, lstC]
             rfl
            refine on_ HT_ 13 none (bv_ 15 16383) (fun K hK => ?_)
            have hs77 : w76.cell? ⟨gb399, 0, none⟩ = some (.int .i64 0) := (blk_cell BK399.out 0).trans rfl
            have hfs77 := blk_frozen BK399.out 0
            have hns77_0 := NB388_399.out
            have hms77_0 := NB399_388.out
            have hs78 : w76.cell? ⟨gb399, 1, none⟩ = some (.int .i64 0) := (blk_cell BK399.out 1).trans rfl
            have hfs78 := blk_frozen BK399.out 1
            have hns78_0 := NB388_399.out
            have hms78_0 := NB399_388.out
            have hs79 : w76.cell? ⟨gb399, 2, none⟩ = some (.int .i64 0) := (blk_cell BK399.out 2).trans rfl
            have hfs79 := blk_frozen BK399.out 2
            have hns79_0 := NB388_399.out
            have hms79_0 := NB399_388.out
            have hs80 : w76.cell? ⟨gb399, 3, none⟩ = some (.bool false) := (blk_cell BK399.out 3).trans rfl
            have hfs80 := blk_frozen BK399.out 3
            have hns80_0 := NB388_399.out
            have hms80_0 := NB399_388.out
            refine skip_ (w1 := ?_) (by rfl) rfl ?_ ?_
            rotate_left
            ·go_simp
             rfl
            refine hK.out _ _ ⟨(cg_ NB388_399 ((cg_ NB388_399 ((cg_ NB388_399 ((cg_ NB388_399 (hHeld.1)))))))), (cg_ NB388_399 ((cg_ NB388_399 ((cg_ NB388_399 ((cg_ NB388_399 (hHeld.2.1)))))))), (cg_ NB388_399 ((cg_ NB388_399 ((cg_ NB388_399 ((cg_ NB388_399 (hHeld.2.2.1)))))))), (cg_ NB388_399 ((cg_ NB388_399 ((cg_ NB388_399 ((cg_ NB388_399 (hHeld.2.2.2.1)))))))), (cf_ hw389_0 GW399 ((cf_ hw389_0 GW399 ((cf_ hw389_0 GW399 ((cf_ hw389_0 GW399 (hHeld.2.2.2.2.1)))))))), (cf_ hw389_1 GW399 ((cf_ hw389_1 GW399 ((cf_ hw389_1 GW399 ((cf_ hw389_1 GW399 (hHeld.2.2.2.2.2.1)))))))), (cf_ hw389_2 GW399 ((cf_ hw389_2 GW399 ((cf_ hw389_2 GW399 ((cf_ hw389_2 GW399 (hHeld.2.2.2.2.2.2.1)))))))), (cf_ hw389_3 GW399 ((cf_ hw389_3 GW399 ((cf_ hw389_3 GW399 ((cf_ hw389_3 GW399 (hHeld.2.2.2.2.2.2.2))))))))⟩ (fun hHeld => ?_)
            clear hK K
            refine pu_ HT_ 14 (some 15) (bv_ 15 32767) ?_
            refine done_ (done_of HT_.out (by kernel_rfl)) ?_
            try go_wp2
            go_ret2
            exact ⟨by first | rfl | (simp [errW_none, errW_some] <;> rfl) | (simp only [← hji31]; first | rfl | (simp [errW_none, errW_some] <;> rfl)) | (simp [*, errW_none, errW_some] <;> rfl), (bw_ HB).out⟩
          ·rw [if_neg c33] at H
           exact absurd H (by simp)
         ·rw [if_neg c32] at H
          exact absurd H (by simp)
        ·rw [if_neg c30] at H
         exact absurd H (by simp)
       ·rw [if_neg c29] at H
        exact absurd H (by simp)
      ·rw [if_neg c28] at H
       have c28b0 : decide (x40_2 < (l1.length : Int)) = false := decide_eq_false c28
       clear c28
       simp only [Option.some.injEq, Prod.mk.injEq] at H
       obtain ⟨rfl, rfl⟩ := H
       go_wp2
       go_ret2
       exact ⟨es_, (bw_ HB).out⟩
end Go.Proofs.Ytbilincmcnnonaa.QS
