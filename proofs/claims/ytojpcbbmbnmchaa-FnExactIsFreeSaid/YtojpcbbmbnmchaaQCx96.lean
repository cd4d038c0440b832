-- Written by a program of this session out of Lean's own print of the loaded program; Lean checks it.
import Derived.Test.YtojpcbbmbnmchaaQCx4
import Derived.Test.YtojpcbbmbnmchaaQCx78
import Derived.Test.YtojpcbbmbnmchaaQCx91
import Derived.Test.YtojpcbbmbnmchaaQCx95
namespace Go.Proofs.Ytojpcbbmbnmchaa.QC
open Go.RowKit Go.Proofs.YtojpcbbmbnmchaaW.PrintWords Go.Proofs.YtojpcbbmbnmchaaW.PrintLast Go.Proofs.YtojpcbbmbnmchaaW.PrintMore
attribute [local go_sem] isSome_setCell max2_int min2_int max_two min_two max_three min_three max_four min_four   -- for this text's walks alone
set_option linter.unusedVariables false
set_option linter.unusedSimpArgs false

attribute [local go_sem high] eqA30
/-! ### impl_isFree: function 94 -/
mutual
def impl_isFree.l0 : Nat → Int → List (S33) → List (S30) → List (S30) → Int → Int → Option (Bool × Int)
 | 0, _, _, _, _, _, _ => none
 | k + 1, x0, x1, x2, x16, x17, x18 => if x18 < x17 then (if 0 ≤ x18 then (if x18 < (x16.length : Int) then (if x18 ≤ (x2.length : Int) then ((some (x2.take (x18 : Int).toNat : List (S30))).bind fun y713 => (impl_isFree.l1 k x0 x1 x2 x16 x17 x18 y713 (y713.length : Int) 0 ((rd_T30 x16 x18).f0.f0) ((rd_T30 x16 x18).f0.f1) ((rd_T30 x16 x18).f0.f2) ((rd_T30 x16 x18).f1))) else (none)) else (none)) else (none)) else (impl_isFree.l2 k x0 x2 x1 (x1.length : Int) 0)
def impl_isFree.l1 : Nat → Int → List (S33) → List (S30) → List (S30) → Int → Int → List (S30) → Int → Int → Int → Int → Int → Bool → Option (Bool × Int)
 | 0, _, _, _, _, _, _, _, _, _, _, _, _, _ => none
 | k + 1, x0, x1, x2, x16, x17, x18, x25, x26, x27, x713000, x713001, x713002, x713003 => if x27 < x26 then (if 0 ≤ x27 then (if x27 < (x25.length : Int) then ((impl_apartSides.f k x0 x713000 x713001 x713002 x713003 ((rd_T30 x25 x27).f0.f0) ((rd_T30 x25 x27).f0.f1) ((rd_T30 x25 x27).f0.f2) ((rd_T30 x25 x27).f1)).bind fun t719 => (if t719 = true then (impl_isFree.l1 k x0 x1 x2 x16 x17 x18 x25 x26 (wrap64 (x27 + 1)) x713000 x713001 x713002 x713003) else (some (false, 0)))) else (none)) else (none)) else (impl_isFree.l0 k x0 x1 x2 x16 x17 (wrap64 (x18 + 1)))
def impl_isFree.l2 : Nat → Int → List (S30) → List (S33) → Int → Int → Option (Bool × Int)
 | 0, _, _, _, _, _ => none
 | k + 1, x0, x2, x38, x39, x40 => if x40 < x39 then (if 0 ≤ x40 then (if x40 < (x38.length : Int) then (if 0 ≤ (wrap64 (2 * x40)) then (if (wrap64 (2 * x40)) < (x2.length : Int) then ((impl_opposite.f ((rd_T30 x2 (wrap64 (2 * x40))).f0.f0) ((rd_T30 x2 (wrap64 (2 * x40))).f0.f1) ((rd_T30 x2 (wrap64 (2 * x40))).f0.f2) ((rd_T30 x2 (wrap64 (2 * x40))).f1)).bind fun bt723 => ((impl_moveSide.f k x0 ((rd_T33 x38 x40).f0.f0) ((rd_T33 x38 x40).f0.f1) ((rd_T33 x38 x40).f1.f0) ((rd_T33 x38 x40).f1.f1) bt723.1 bt723.2.1 bt723.2.2.1 bt723.2.2.2).bind fun bt727 => (if bt727.2.2.2.2 = true then (if 0 ≤ (wrap64 ((wrap64 (2 * x40)) + 1)) then (if (wrap64 ((wrap64 (2 * x40)) + 1)) < (x2.length : Int) then (if ((!(bt727.1 == ((rd_T30 x2 (wrap64 ((wrap64 (2 * x40)) + 1))).f0.f0)) || (!(bt727.2.1 == ((rd_T30 x2 (wrap64 ((wrap64 (2 * x40)) + 1))).f0.f1)) || (!(bt727.2.2.1 == ((rd_T30 x2 (wrap64 ((wrap64 (2 * x40)) + 1))).f0.f2))))) || (!(bt727.2.2.2.1 == ((rd_T30 x2 (wrap64 ((wrap64 (2 * x40)) + 1))).f1)))) = true then (some (false, 0)) else (impl_isFree.l2 k x0 x2 x38 x39 (wrap64 (x40 + 1)))) else (none)) else (none)) else (some (false, 3))))) else (none)) else (none)) else (none)) else (none)) else (some (true, 0))
end
def impl_isFree.f (k : Nat) (a0 : Int) (l1 : List (S33)) (l2 : List (S30)) : Option (Bool × Int) := impl_isFree.l0 k a0 l1 l2 l2 (l2.length : Int) 0
def impl_isFree.T14 : Bool × List (List Nat × List Nat) := (true, [([], []), ([], []), ([], []), ([], []), ([3], [3]), ([2, 4], [2, 4]), ([5], [5]), ([6], [6]), ([0, 1, 7, 7], [0, 1, 7]), ([8], [8]), ([9], [9]), ([9], [9]), ([], []), ([12, 10, 8, 0, 1, 2, 3, 4, 5, 6, 7, 8, 9, 10, 12], [10, 12]), ([11, 13, 0, 1, 2, 3, 4, 5, 6, 7, 8, 9, 10, 11, 12, 13], [11])])
def impl_isFree.B14 : List Nat := [0, 0, 0, 0, 8, 28, 60, 124, 255, 511, 1023, 1023, 0, 6143, 16383]
theorem impl_isFree.tab14 : rtab .any (opsOf Try.f94 14) = impl_isFree.T14 := by kernel_rfl
theorem impl_isFree.bits14 : waitsOk impl_isFree.T14.2 impl_isFree.B14 = true := by kernel_rfl
def impl_isFree.T17 : Bool × List (List Nat × List Nat) := (true, [([], []), ([], []), ([], []), ([2], [2]), ([3], [3]), ([1, 4], [1, 4]), ([5], [5]), ([0, 6], [0, 6]), ([7], [7])])
def impl_isFree.B17 : List Nat := [0, 0, 0, 4, 12, 30, 62, 127, 255]
theorem impl_isFree.tab17 : rtab .any (opsOf Try.f94 17) = impl_isFree.T17 := by kernel_rfl
theorem impl_isFree.bits17 : waitsOk impl_isFree.T17.2 impl_isFree.B17 = true := by kernel_rfl
set_option maxHeartbeats 8000000 in
set_option maxRecDepth 100000 in
theorem impl_isFree.calls (k : Nat) (a0 : Int) (A1 : Option Addr) (c1 : Nat) (l1 : List (S33)) (A2 : Option Addr) (c2 : Nat) (l2 : List (S30)) (r1 : Bool) (r2 : Int) (w : World) (hr1 : Kd.C k33 w A1 l1.length l1) (hc1 : l1.length ≤ c1) (hr2 : Kd.C k30 w A2 l2.length l2) (hc2 : l2.length ≤ c2) (h : impl_isFree.f k a0 l1 l2 = some (r1, r2)) :
  Calls Try.prog 94 #[.int .i64 a0, .slice A1 l1.length c1, .slice A2 l2.length c2] w fun e w' => e = .returned (.tuple #[.bool r1, .int .i64 r2]) ∧ Below w.heap.size w w' := by
 have hu30 := Try.underlying30
 have hu33 := Try.underlying33
 have HR1 := Aside0.mk hr1
 have HC1 := Aside0.mk hc1
 clear hr1 hc1
 have HR2 := Aside0.mk hr2
 have HC2 := Aside0.mk hc2
 clear hr2 hc2
 have HB := Aside0.mk (Below.refl w.heap.size w)
 have H : (impl_isFree.l0 k a0 l1 l2 l2 (l2.length : Int) 0) = some (r1, r2) := h
 clear h
 have H' := Aside0.mk H
 clear H
 go_enter Try.func94, Try.ntmps94
 go_wp2
 go_loopg [18] k (fun kq v18 w' => ∃ (x18_1 : Int), v18 = .int .i64 x18_1 ∧ Aside0 (impl_isFree.l0 kq a0 l1 l2 l2 (l2.length : Int) x18_1 = some (r1, r2)) ∧ Aside0 (kq ≤ k) ∧ Aside0 (Below w.heap.size w w'))
 case atStart => exact ⟨(0), (by first | rfl | (simp; done) | (simp [*]; done) | (simp [wrap64]; done)), H', ⟨Nat.le_refl _⟩, bw_ HB⟩
 case round =>
  clear H'
  try clear c1
  try clear c2
  try clear p2
  obtain ⟨x18_1, rfl, HA, HK1, HB⟩ := hrel
  cases gk with
  | zero => exact absurd HA.out (by simp [impl_isFree.l0])
  | succ k1 =>
   have H := HA.out
   clear HA
   simp only [impl_isFree.l0] at H
   by_cases c4 : x18_1 < (l2.length : Int)
   ·rw [if_pos c4] at H
    have c4b0 : decide (x18_1 < (l2.length : Int)) = true := decide_eq_true c4
    clear c4
    by_cases c5 : 0 ≤ x18_1
    ·rw [if_pos c5] at H
     have c5b0 : decide (0 ≤ x18_1) = true := decide_eq_true c5
     clear c5
     by_cases c6 : x18_1 < (l2.length : Int)
     ·rw [if_pos c6] at H
      have c6b0 : decide (x18_1 < (l2.length : Int)) = true := decide_eq_true c6
      clear c6
      have c7b0 := eq_true (of_decide_eq_true (by first | (with_reducible assumption) | assumption) : 0 ≤ x18_1)
      by_cases c8 : x18_1 ≤ (l2.length : Int)
      ·rw [if_pos c8] at H
       have c8b0 := eq_true c8
       have c8b1 : decide (x18_1 ≤ (l2.length : Int)) = true := decide_eq_true c8
       clear c8
       obtain ⟨y713, hy713⟩ : ∃ y_ : List (S30), y_ = (l2.take (x18_1 : Int).toNat) := ⟨_, rfl⟩
       replace H : (impl_isFree.l1 k1 a0 l1 l2 l2 (l2.length : Int) x18_1 y713 (y713.length : Int) 0 ((rd_T30 l2 x18_1).f0.f0) ((rd_T30 l2 x18_1).f0.f1) ((rd_T30 l2 x18_1).f0.f2) ((rd_T30 l2 x18_1).f1)) = some (r1, r2) := by first | (rw [hy713]; with_reducible exact H) | (have H2_ := (Option.bind_some _ _).symm.trans H; rw [hy713]; with_reducible exact H2_) | (have H2_ := (Option.bind_some _ _).symm.trans H; with_reducible exact H2_) | with_reducible exact H | (rw [hy713]; exact H) | exact H
       have Ny713 := Aside0.mk hy713
       clear hy713
       have H' := Aside0.mk H
       clear H
       have p711 : 0 ≤ (x18_1 : Int) := of_decide_eq_true (by first | (with_reducible assumption) | assumption)
       have q711 : x18_1 < (l2.length : Int) := of_decide_eq_true (by first | (with_reducible assumption) | assumption)
       obtain ⟨ad711, e711, hx711_0, hx711_1, hx711_2, hx711_3⟩ := at_T30 HR2.out x18_1 p711 q711
       cases e711
       replace hx711_0 := clTr HB.out hx711_0
       replace hx711_1 := clTr HB.out hx711_1
       replace hx711_2 := clTr HB.out hx711_2
       replace hx711_3 := clTr HB.out hx711_3
       replace p711 := eq_true p711
       replace q711 := eq_true q711
       go_wp2_with (first | ((with_reducible refine gate_dst (N := 9) rfl ?_); refine bx_ 9 #[.int .i64 0, .int .i64 0, .int .i64 0, .bool false] 30 ?_; intro gb712 hg w9 hbox hb; have BK712 := Aside0.mk (hbox); have GW712 := bs_ HB hg; have GE712 := bs_ HB hg; replace HB := bt_ HB hb; clear hb hbox hg; have hcz10_0 : w9.cell? ⟨gb712, 0, none⟩ = some (.int .i64 0) := (blk_cell BK712.out 0).trans rfl; have hcz10_1 : w9.cell? ⟨gb712, 1, none⟩ = some (.int .i64 0) := (blk_cell BK712.out 1).trans rfl; have hcz10_2 : w9.cell? ⟨gb712, 2, none⟩ = some (.int .i64 0) := (blk_cell BK712.out 2).trans rfl; have hcz10_3 : w9.cell? ⟨gb712, 3, none⟩ = some (.bool false) := (blk_cell BK712.out 3).trans rfl; have hfz10_0 := blk_frozen BK712.out 0; have hfz10_1 := blk_frozen BK712.out 1; have hfz10_2 := blk_frozen BK712.out 2; have hfz10_3 := blk_frozen BK712.out 3) | ((with_reducible refine gate_store (t := 30) (p := 9) rfl ?_); refine store_event (t := 30) (p := 9) (v := ?vo_w11) (w1 := ((((w9.setCell ⟨gb712, 0, none⟩ (.int .i64 ((rd_T30 l2 x18_1).f0.f0))).setCell ⟨gb712, 1, none⟩ (.int .i64 ((rd_T30 l2 x18_1).f0.f1))).setCell ⟨gb712, 2, none⟩ (.int .i64 ((rd_T30 l2 x18_1).f0.f2))).setCell ⟨gb712, 3, none⟩ (.bool ((rd_T30 l2 x18_1).f1)))) ?hg ?ho ?hn ?hr ?_; (case ho => rfl); (case hg => rfl); (case hn => rfl); (case hr => first | (go_simp; done) | (go_simp; rfl)); intro w11 hw; have n0_ : Aside0 (w11.heap[gb712]? = some (.cells #[.int .i64 ((rd_T30 l2 x18_1).f0.f0), .int .i64 ((rd_T30 l2 x18_1).f0.f1), .int .i64 ((rd_T30 l2 x18_1).f0.f2), .bool ((rd_T30 l2 x18_1).f1)] 30 (0, 0))) := ⟨(by rw [hw]; exact (by (with_reducible repeat first | apply blk_drewN | apply blk_drew | apply blk_alloc); refine blk_put (cs := #[.int .i64 ((rd_T30 l2 x18_1).f0.f0), .int .i64 ((rd_T30 l2 x18_1).f0.f1), .int .i64 ((rd_T30 l2 x18_1).f0.f2), .bool false]) ?_ 3 _ rfl; (with_reducible repeat first | apply blk_drewN | apply blk_drew | apply blk_alloc); refine blk_put (cs := #[.int .i64 ((rd_T30 l2 x18_1).f0.f0), .int .i64 ((rd_T30 l2 x18_1).f0.f1), .int .i64 0, .bool false]) ?_ 2 _ rfl; (with_reducible repeat first | apply blk_drewN | apply blk_drew | apply blk_alloc); refine blk_put (cs := #[.int .i64 ((rd_T30 l2 x18_1).f0.f0), .int .i64 0, .int .i64 0, .bool false]) ?_ 1 _ rfl; (with_reducible repeat first | apply blk_drewN | apply blk_drew | apply blk_alloc); refine blk_put (cs := #[.int .i64 0, .int .i64 0, .int .i64 0, .bool false]) ?_ 0 _ rfl; (with_reducible repeat first | apply blk_drewN | apply blk_drew | apply blk_alloc); exact BK712.out))⟩; have n1_ : Aside0 (Below w.heap.size w w11) := ⟨(by rw [hw]; exact (bw_ HB).out)⟩; clear hw; clear BK712; clear HB; have BK712 := n0_; have HB := n1_; clear n0_ n1_; have q12 : (x18_1 : Int) ≤ ((l2.length : Int) : Int) := of_decide_eq_true (by first | (with_reducible assumption) | assumption); obtain ⟨i012, hi012, _, hsz12, _⟩ := info_parts info30; have hroom12 : l2.length ≤ c2 := HC2.out; have hC12 : Kd.C k30 _ (some ad711) l2.length l2 := HR2.out; have hcut12 := cut_to (P := Try.prog) 52 30 .i64 Try.underlying52 hi012 (some ad711) l2.length c2 x18_1 (of_decide_eq_true (by first | (with_reducible assumption) | assumption)) q12 hroom12; have hr12 := Kd.C_take (m := (x18_1 : Int).toNat) hC12 (by omega); have hy12 : y713.length = (x18_1 : Int).toNat := (by rw [Ny713.out, List.length_take]; omega); rw [← Ny713.out] at hr12; rw [← hy12] at hcut12; have HR716 := Aside0.mk hr12; have HC716 := Aside0.mk (show y713.length ≤ c2 from by omega); clear hr12 hC12 hroom12 hi012 hsz12; have KY12 := Aside0.mk hy12; clear hy12; replace q12 := eq_true q12))
       go_loopg [27] k1 (fun kq v27 w' => ∃ (x27_2 : Int), v27 = .int .i64 x27_2 ∧ Aside0 (impl_isFree.l1 kq a0 l1 l2 l2 (l2.length : Int) x18_1 y713 (y713.length : Int) x27_2 ((rd_T30 l2 x18_1).f0.f0) ((rd_T30 l2 x18_1).f0.f1) ((rd_T30 l2 x18_1).f0.f2) ((rd_T30 l2 x18_1).f1) = some (r1, r2)) ∧ Aside0 (kq ≤ k1) ∧ Aside0 (w'.heap[gb712]? = some (.cells #[.int .i64 ((rd_T30 l2 x18_1).f0.f0), .int .i64 ((rd_T30 l2 x18_1).f0.f1), .int .i64 ((rd_T30 l2 x18_1).f0.f2), .bool ((rd_T30 l2 x18_1).f1)] 30 (0, 0))) ∧ Aside0 (Below w.heap.size w w'))
       case atStart => exact ⟨(0), (by first | rfl | (simp; done) | (simp [*]; done) | (simp [wrap64]; done)), H', ⟨Nat.le_refl _⟩, bl_ BK712, bw_ HB⟩
       case round =>
        clear H'
        try clear c1
        try clear q1
        try clear c2
        try clear p2
        try clear c4
        try clear c4b0
        try clear c5
        try clear c5b0
        try clear c6
        try clear c6b0
        try clear c7
        try clear c7b0
        try clear p7
        try clear q7
        try clear hx7
        try clear c8
        try clear c8b0
        try clear c8b1
        try clear c9
        try clear q12
        try clear hcz10_0
        try clear hcz10_1
        try clear hcz10_2
        try clear hcz10_3
        try clear hfz10_0
        try clear hfz10_1
        try clear hfz10_2
        try clear hfz10_3
        try clear hx711_0
        try clear hx711_1
        try clear hx711_2
        try clear hx711_3
        try clear p2
        try clear p711
        try clear q12
        try clear q711
        obtain ⟨x27_2, rfl, HA, HK2, BK712, HB⟩ := hrel
        cases gk with
        | zero => exact absurd HA.out (by simp [impl_isFree.l1])
        | succ k2 =>
         have H := HA.out
         clear HA
         simp only [impl_isFree.l1] at H
         by_cases c13 : x27_2 < (y713.length : Int)
         ·rw [if_pos c13] at H
          have c13b0 : decide (x27_2 < (y713.length : Int)) = true := decide_eq_true c13
          clear c13
          by_cases c14 : 0 ≤ x27_2
          ·rw [if_pos c14] at H
           have c14b0 : decide (0 ≤ x27_2) = true := decide_eq_true c14
           clear c14
           by_cases c15 : x27_2 < (y713.length : Int)
           ·rw [if_pos c15] at H
            have c15b0 : decide (x27_2 < (y713.length : Int)) = true := decide_eq_true c15
            clear c15
            replace H := Option.bind_eq_some_iff.mp H
            obtain ⟨t719, A160, H⟩ := H
            have A16 := Aside0.mk A160
            clear A160
            by_cases c17 : t719 = true
            ·subst c17
             have H1 : (impl_isFree.l1 k2 a0 l1 l2 l2 (l2.length : Int) x18_1 y713 (y713.length : Int) (wrap64 (x27_2 + 1)) ((rd_T30 l2 x18_1).f0.f0) ((rd_T30 l2 x18_1).f0.f1) ((rd_T30 l2 x18_1).f0.f2) ((rd_T30 l2 x18_1).f1)) = some (r1, r2) := by rw [if_pos rfl] at H; exact H
             clear H
             have H := H1
             clear H1
             have H' := Aside0.mk H
             clear H
             have p717 : 0 ≤ (x27_2 : Int) := of_decide_eq_true (by first | (with_reducible assumption) | assumption)
             have q717 : x27_2 < (y713.length : Int) := of_decide_eq_true (by first | (with_reducible assumption) | assumption)
             obtain ⟨ad717, e717, hx717_0, hx717_1, hx717_2, hx717_3⟩ := at_T30 HR716.out x27_2 p717 q717
             obtain rfl : ad711 = ad717 := (by injection e717)
             replace hx717_0 := clTr HB.out hx717_0
             replace hx717_1 := clTr HB.out hx717_1
             replace hx717_2 := clTr HB.out hx717_2
             replace hx717_3 := clTr HB.out hx717_3
             replace p717 := eq_true p717
             replace q717 := eq_true q717
             go_wp2_with (first | ((with_reducible refine gate_dst (N := 11) rfl ?_); refine bx_ 11 #[.int .i64 0, .int .i64 0, .int .i64 0, .bool false] 30 ?_; intro gb718 hg w18 hbox hb; have BK718 := Aside0.mk (hbox); have GW718 := bs_ HB hg; have GE718 := bs_ HB hg; have NB712_718 := bm_ BK712 hg; have NB718_712 := bn_ BK712 hg; replace BK712 := bb_ BK712 hb; replace HB := bt_ HB hb; clear hb hbox hg; have hnb19 := NB718_712.out; have hnc19 := NB712_718.out; have hcz20_0 : w18.cell? ⟨gb718, 0, none⟩ = some (.int .i64 0) := (blk_cell BK718.out 0).trans rfl; have hcz20_1 : w18.cell? ⟨gb718, 1, none⟩ = some (.int .i64 0) := (blk_cell BK718.out 1).trans rfl; have hcz20_2 : w18.cell? ⟨gb718, 2, none⟩ = some (.int .i64 0) := (blk_cell BK718.out 2).trans rfl; have hcz20_3 : w18.cell? ⟨gb718, 3, none⟩ = some (.bool false) := (blk_cell BK718.out 3).trans rfl; have hfz20_0 := blk_frozen BK718.out 0; have hfz20_1 := blk_frozen BK718.out 1; have hfz20_2 := blk_frozen BK718.out 2; have hfz20_3 := blk_frozen BK718.out 3; have hcz21_0 : w18.cell? ⟨gb712, 0, none⟩ = some (.int .i64 ((rd_T30 l2 x18_1).f0.f0)) := (blk_cell BK712.out 0).trans rfl; have hcz21_1 : w18.cell? ⟨gb712, 1, none⟩ = some (.int .i64 ((rd_T30 l2 x18_1).f0.f1)) := (blk_cell BK712.out 1).trans rfl; have hcz21_2 : w18.cell? ⟨gb712, 2, none⟩ = some (.int .i64 ((rd_T30 l2 x18_1).f0.f2)) := (blk_cell BK712.out 2).trans rfl; have hcz21_3 : w18.cell? ⟨gb712, 3, none⟩ = some (.bool ((rd_T30 l2 x18_1).f1)) := (blk_cell BK712.out 3).trans rfl; have hfz21_0 := blk_frozen BK712.out 0; have hfz21_1 := blk_frozen BK712.out 1; have hfz21_2 := blk_frozen BK712.out 2; have hfz21_3 := blk_frozen BK712.out 3) | ((with_reducible refine gate_callee (f := 111) rfl ?_); refine goesL_ (some 34) rfl rfl Try.func111 (by kernel_rfl) rfl #[.int .i64 a0, .agg #[.int .i64 ((rd_T30 l2 x18_1).f0.f0), .int .i64 ((rd_T30 l2 x18_1).f0.f1), .int .i64 ((rd_T30 l2 x18_1).f0.f2), .bool ((rd_T30 l2 x18_1).f1)], .agg #[.int .i64 ((rd_T30 y713 x27_2).f0.f0), .int .i64 ((rd_T30 y713 x27_2).f0.f1), .int .i64 ((rd_T30 y713 x27_2).f0.f2), .bool ((rd_T30 y713 x27_2).f1)]] rfl (by (try simp only [List.map_toArray, List.map_cons, List.map_nil]); first | done | rfl | (simp only [List.length_drop, List.length_take]; rfl)) ?_; (with_reducible refine (impl_apartSides.calls k2 a0 ((rd_T30 l2 x18_1).f0.f0) ((rd_T30 l2 x18_1).f0.f1) ((rd_T30 l2 x18_1).f0.f2) ((rd_T30 l2 x18_1).f1) ((rd_T30 y713 x27_2).f0.f0) ((rd_T30 y713 x27_2).f0.f1) ((rd_T30 y713 x27_2).f0.f2) ((rd_T30 y713 x27_2).f1) true _ A16.out).mono ?_); rintro e w22 ⟨rfl, hb⟩; refine ⟨_, rfl, ?_⟩; replace BK712 := Aside0.mk (blk_below (g := gb712) (o := .cells #[.int .i64 ((rd_T30 l2 x18_1).f0.f0), .int .i64 ((rd_T30 l2 x18_1).f0.f1), .int .i64 ((rd_T30 l2 x18_1).f0.f2), .bool ((rd_T30 l2 x18_1).f1)] 30 (0, 0)) (by (with_reducible repeat first | apply blk_drewN | apply blk_drew | apply blk_alloc); refine blk_far ?_ NB712_718.out _; (with_reducible repeat first | apply blk_drewN | apply blk_drew | apply blk_alloc); refine blk_far ?_ NB712_718.out _; (with_reducible repeat first | apply blk_drewN | apply blk_drew | apply blk_alloc); refine blk_far ?_ NB712_718.out _; (with_reducible repeat first | apply blk_drewN | apply blk_drew | apply blk_alloc); refine blk_far ?_ NB712_718.out _; (with_reducible repeat first | apply blk_drewN | apply blk_drew | apply blk_alloc); exact BK712.out) hb); replace BK718 := Aside0.mk (blk_below (g := gb718) (o := .cells #[.int .i64 ((rd_T30 y713 x27_2).f0.f0), .int .i64 ((rd_T30 y713 x27_2).f0.f1), .int .i64 ((rd_T30 y713 x27_2).f0.f2), .bool ((rd_T30 y713 x27_2).f1)] 30 (0, 0)) (by (with_reducible repeat first | apply blk_drewN | apply blk_drew | apply blk_alloc); refine blk_put (cs := #[.int .i64 ((rd_T30 y713 x27_2).f0.f0), .int .i64 ((rd_T30 y713 x27_2).f0.f1), .int .i64 ((rd_T30 y713 x27_2).f0.f2), .bool false]) ?_ 3 _ rfl; (with_reducible repeat first | apply blk_drewN | apply blk_drew | apply blk_alloc); refine blk_put (cs := #[.int .i64 ((rd_T30 y713 x27_2).f0.f0), .int .i64 ((rd_T30 y713 x27_2).f0.f1), .int .i64 0, .bool false]) ?_ 2 _ rfl; (with_reducible repeat first | apply blk_drewN | apply blk_drew | apply blk_alloc); refine blk_put (cs := #[.int .i64 ((rd_T30 y713 x27_2).f0.f0), .int .i64 0, .int .i64 0, .bool false]) ?_ 1 _ rfl; (with_reducible repeat first | apply blk_drewN | apply blk_drew | apply blk_alloc); refine blk_put (cs := #[.int .i64 0, .int .i64 0, .int .i64 0, .bool false]) ?_ 0 _ rfl; (with_reducible repeat first | apply blk_drewN | apply blk_drew | apply blk_alloc); exact BK718.out) hb); replace HB := bt_ HB hb; (try clear hb); (try clear hb2); (try clear hk); (try clear hi)))
             go_roundg k2
             case measure => have := HK1.out; have := HK2.out; omega
             case rel => exact ⟨(wrap64 (x27_2 + 1)), (by first | rfl | (simp; done) | (simp [*]; done) | (simp [wrap64]; done)), H', ⟨by have := HK1.out; have := HK2.out; omega⟩, bl_ BK712, bw_ HB⟩
            ·replace c17 := Bool.eq_false_iff.mpr c17
             subst c17
             have H1 : (some (false, 0)) = some (r1, r2) := by rw [if_neg (show ¬ (false = true) by decide)] at H; exact H
             clear H
             have H := H1
             clear H1
             simp only [Option.some.injEq, Prod.mk.injEq] at H
             obtain ⟨rfl, rfl⟩ := H
             have p717 : 0 ≤ (x27_2 : Int) := of_decide_eq_true (by first | (with_reducible assumption) | assumption)
             have q717 : x27_2 < (y713.length : Int) := of_decide_eq_true (by first | (with_reducible assumption) | assumption)
             obtain ⟨ad717, e717, hx717_0, hx717_1, hx717_2, hx717_3⟩ := at_T30 HR716.out x27_2 p717 q717
             obtain rfl : ad711 = ad717 := (by injection e717)
             replace hx717_0 := clTr HB.out hx717_0
             replace hx717_1 := clTr HB.out hx717_1
             replace hx717_2 := clTr HB.out hx717_2
             replace hx717_3 := clTr HB.out hx717_3
             replace p717 := eq_true p717
             replace q717 := eq_true q717
             go_wp2_with (first | ((with_reducible refine gate_dst (N := 11) rfl ?_); refine bx_ 11 #[.int .i64 0, .int .i64 0, .int .i64 0, .bool false] 30 ?_; intro gb718 hg w23 hbox hb; have BK718 := Aside0.mk (hbox); have GW718 := bs_ HB hg; have GE718 := bs_ HB hg; have NB712_718 := bm_ BK712 hg; have NB718_712 := bn_ BK712 hg; replace BK712 := bb_ BK712 hb; replace HB := bt_ HB hb; clear hb hbox hg; have hnb24 := NB718_712.out; have hnc24 := NB712_718.out; have hcz25_0 : w23.cell? ⟨gb718, 0, none⟩ = some (.int .i64 0) := (blk_cell BK718.out 0).trans rfl; have hcz25_1 : w23.cell? ⟨gb718, 1, none⟩ = some (.int .i64 0) := (blk_cell BK718.out 1).trans rfl; have hcz25_2 : w23.cell? ⟨gb718, 2, none⟩ = some (.int .i64 0) := (blk_cell BK718.out 2).trans rfl; have hcz25_3 : w23.cell? ⟨gb718, 3, none⟩ = some (.bool false) := (blk_cell BK718.out 3).trans rfl; have hfz25_0 := blk_frozen BK718.out 0; have hfz25_1 := blk_frozen BK718.out 1; have hfz25_2 := blk_frozen BK718.out 2; have hfz25_3 := blk_frozen BK718.out 3; have hcz26_0 : w23.cell? ⟨gb712, 0, none⟩ = some (.int .i64 ((rd_T30 l2 x18_1).f0.f0)) := (blk_cell BK712.out 0).trans rfl; have hcz26_1 : w23.cell? ⟨gb712, 1, none⟩ = some (.int .i64 ((rd_T30 l2 x18_1).f0.f1)) := (blk_cell BK712.out 1).trans rfl; have hcz26_2 : w23.cell? ⟨gb712, 2, none⟩ = some (.int .i64 ((rd_T30 l2 x18_1).f0.f2)) := (blk_cell BK712.out 2).trans rfl; have hcz26_3 : w23.cell? ⟨gb712, 3, none⟩ = some (.bool ((rd_T30 l2 x18_1).f1)) := (blk_cell BK712.out 3).trans rfl; have hfz26_0 := blk_frozen BK712.out 0; have hfz26_1 := blk_frozen BK712.out 1; have hfz26_2 := blk_frozen BK712.out 2; have hfz26_3 := blk_frozen BK712.out 3) | ((with_reducible refine gate_callee (f := 111) rfl ?_); refine goesL_ (some 34) rfl rfl Try.func111 (by kernel_rfl) rfl #[.int .i64 a0, .agg #[.int .i64 ((rd_T30 l2 x18_1).f0.f0), .int .i64 ((rd_T30 l2 x18_1).f0.f1), .int .i64 ((rd_T30 l2 x18_1).f0.f2), .bool ((rd_T30 l2 x18_1).f1)], .agg #[.int .i64 ((rd_T30 y713 x27_2).f0.f0), .int .i64 ((rd_T30 y713 x27_2).f0.f1), .int .i64 ((rd_T30 y713 x27_2).f0.f2), .bool ((rd_T30 y713 x27_2).f1)]] rfl (by (try simp only [List.map_toArray, List.map_cons, List.map_nil]); first | done | rfl | (simp only [List.length_drop, List.length_take]; rfl)) ?_; (with_reducible refine (impl_apartSides.calls k2 a0 ((rd_T30 l2 x18_1).f0.f0) ((rd_T30 l2 x18_1).f0.f1) ((rd_T30 l2 x18_1).f0.f2) ((rd_T30 l2 x18_1).f1) ((rd_T30 y713 x27_2).f0.f0) ((rd_T30 y713 x27_2).f0.f1) ((rd_T30 y713 x27_2).f0.f2) ((rd_T30 y713 x27_2).f1) false _ A16.out).mono ?_); rintro e w27 ⟨rfl, hb⟩; refine ⟨_, rfl, ?_⟩; replace BK712 := Aside0.mk (blk_below (g := gb712) (o := .cells #[.int .i64 ((rd_T30 l2 x18_1).f0.f0), .int .i64 ((rd_T30 l2 x18_1).f0.f1), .int .i64 ((rd_T30 l2 x18_1).f0.f2), .bool ((rd_T30 l2 x18_1).f1)] 30 (0, 0)) (by (with_reducible repeat first | apply blk_drewN | apply blk_drew | apply blk_alloc); refine blk_far ?_ NB712_718.out _; (with_reducible repeat first | apply blk_drewN | apply blk_drew | apply blk_alloc); refine blk_far ?_ NB712_718.out _; (with_reducible repeat first | apply blk_drewN | apply blk_drew | apply blk_alloc); refine blk_far ?_ NB712_718.out _; (with_reducible repeat first | apply blk_drewN | apply blk_drew | apply blk_alloc); refine blk_far ?_ NB712_718.out _; (with_reducible repeat first | apply blk_drewN | apply blk_drew | apply blk_alloc); exact BK712.out) hb); replace BK718 := Aside0.mk (blk_below (g := gb718) (o := .cells #[.int .i64 ((rd_T30 y713 x27_2).f0.f0), .int .i64 ((rd_T30 y713 x27_2).f0.f1), .int .i64 ((rd_T30 y713 x27_2).f0.f2), .bool ((rd_T30 y713 x27_2).f1)] 30 (0, 0)) (by (with_reducible repeat first | apply blk_drewN | apply blk_drew | apply blk_alloc); refine blk_put (cs := #[.int .i64 ((rd_T30 y713 x27_2).f0.f0), .int .i64 ((rd_T30 y713 x27_2).f0.f1), .int .i64 ((rd_T30 y713 x27_2).f0.f2), .bool false]) ?_ 3 _ rfl; (with_reducible repeat first | apply blk_drewN | apply blk_drew | apply blk_alloc); refine blk_put (cs := #[.int .i64 ((rd_T30 y713 x27_2).f0.f0), .int .i64 ((rd_T30 y713 x27_2).f0.f1), .int .i64 0, .bool false]) ?_ 2 _ rfl; (with_reducible repeat first | apply blk_drewN | apply blk_drew | apply blk_alloc); refine blk_put (cs := #[.int .i64 ((rd_T30 y713 x27_2).f0.f0), .int .i64 0, .int .i64 0, .bool false]) ?_ 1 _ rfl; (with_reducible repeat first | apply blk_drewN | apply blk_drew | apply blk_alloc); refine blk_put (cs := #[.int .i64 0, .int .i64 0, .int .i64 0, .bool false]) ?_ 0 _ rfl; (with_reducible repeat first | apply blk_drewN | apply blk_drew | apply blk_alloc); exact BK718.out) hb); replace HB := bt_ HB hb; (try clear hb); (try clear hb2); (try clear hk); (try clear hi)))
             go_ret2
             exact ⟨by first | rfl | (simp [errW_none, errW_some] <;> rfl) | (simp [*, errW_none, errW_some] <;> rfl), by repeat (first | (with_reducible first | exact HB.out | apply below_alloc | apply pw_below_drewN | apply below_drew1 | refine below_set ?_ GE712.out | refine below_set ?_ GE718.out) | exact HB.out)⟩
           ·rw [if_neg c15] at H
            exact absurd H (by simp)
          ·rw [if_neg c14] at H
           exact absurd H (by simp)
         ·rw [if_neg c13] at H
          have c13b0 : decide (x27_2 < (y713.length : Int)) = false := decide_eq_false c13
          clear c13
          have H' := Aside0.mk H
          clear H
          go_wp2
          go_roundg k2
          case measure => have := HK1.out; have := HK2.out; omega
          case rel => exact ⟨(wrap64 (x18_1 + 1)), (by first | rfl | (simp; done) | (simp [*]; done) | (simp [wrap64]; done)), H', ⟨by have := HK1.out; have := HK2.out; omega⟩, bw_ HB⟩
      ·rw [if_neg c8] at H
       exact absurd H (by simp)
     ·rw [if_neg c6] at H
      exact absurd H (by simp)
    ·rw [if_neg c5] at H
     exact absurd H (by simp)
   ·rw [if_neg c4] at H
    have c4b0 : decide (x18_1 < (l2.length : Int)) = false := decide_eq_false c4
    clear c4
    have H' := Aside0.mk H
    clear H
    go_wp2
    go_loopg [40] k1 (fun kq v40 w' => ∃ (x40_2 : Int), v40 = .int .i64 x40_2 ∧ Aside0 (impl_isFree.l2 kq a0 l2 l1 (l1.length : Int) x40_2 = some (r1, r2)) ∧ Aside0 (kq ≤ k1) ∧ Aside0 (Below w.heap.size w w'))
    case atStart => exact ⟨(0), (by first | rfl | (simp; done) | (simp [*]; done) | (simp [wrap64]; done)), H', ⟨Nat.le_refl _⟩, bw_ HB⟩
    case round =>
     clear H'
     try clear c1
     try clear q1
     try clear c2
     try clear p2
     try clear c4
     try clear c4b0
     try clear c5
     try clear c5b0
     try clear c6
     try clear c6b0
     try clear p6
     try clear c7
     try clear c7b0
     try clear p7
     try clear q7
     try clear hx7
     try clear c8
     try clear c8b0
     try clear c8b1
     try clear c9
     try clear c11
     try clear q12
     try clear c13
     try clear c13b0
     try clear c14
     try clear c14b0
     try clear c15
     try clear c15b0
     try clear c17
     try clear c19
     try clear c24
     try clear hcz10_0
     try clear hcz10_1
     try clear hcz10_2
     try clear hcz10_3
     try clear hcz20_0
     try clear hcz20_1
     try clear hcz20_2
     try clear hcz20_3
     try clear hcz21_0
     try clear hcz21_1
     try clear hcz21_2
     try clear hcz21_3
     try clear hcz25_0
     try clear hcz25_1
     try clear hcz25_2
     try clear hcz25_3
     try clear hcz26_0
     try clear hcz26_1
     try clear hcz26_2
     try clear hcz26_3
     try clear hfz10_0
     try clear hfz10_1
     try clear hfz10_2
     try clear hfz10_3
     try clear hfz20_0
     try clear hfz20_1
     try clear hfz20_2
     try clear hfz20_3
     try clear hfz21_0
     try clear hfz21_1
     try clear hfz21_2
     try clear hfz21_3
     try clear hfz25_0
     try clear hfz25_1
     try clear hfz25_2
     try clear hfz25_3
     try clear hfz26_0
     try clear hfz26_1
     try clear hfz26_2
     try clear hfz26_3
     try clear hx711_0
     try clear hx711_1
     try clear hx711_2
     try clear hx711_3
     try clear hx717_0
     try clear hx717_1
     try clear hx717_2
     try clear hx717_3
     try clear p2
     try clear p7
     try clear p711
     try clear p717
     try clear q1
     try clear q12
     try clear q7
     try clear q711
     try clear q717
     obtain ⟨x40_2, rfl, HA, HK2, HB⟩ := hrel
     cases gk with
     | zero => exact absurd HA.out (by simp [impl_isFree.l2])
     | succ k2 =>
      have H := HA.out
      clear HA
      simp only [impl_isFree.l2] at H
      by_cases c28 : x40_2 < (l1.length : Int)
      ·rw [if_pos c28] at H
       have c28b0 : decide (x40_2 < (l1.length : Int)) = true := decide_eq_true c28
       clear c28
       by_cases c29 : 0 ≤ x40_2
       ·rw [if_pos c29] at H
        have c29b0 : decide (0 ≤ x40_2) = true := decide_eq_true c29
        clear c29
        by_cases c30 : x40_2 < (l1.length : Int)
        ·rw [if_pos c30] at H
         have c30b0 : decide (x40_2 < (l1.length : Int)) = true := decide_eq_true c30
         clear c30
         obtain ⟨ji31, hji31⟩ : ∃ j_ : Int, (wrap64 (2 * x40_2)) = j_ := ⟨_, rfl⟩
         replace H : (if 0 ≤ (ji31) then (if (ji31) < (l2.length : Int) then ((impl_opposite.f ((rd_T30 l2 (ji31)).f0.f0) ((rd_T30 l2 (ji31)).f0.f1) ((rd_T30 l2 (ji31)).f0.f2) ((rd_T30 l2 (ji31)).f1)).bind fun bt723 => ((impl_moveSide.f k2 a0 ((rd_T33 l1 x40_2).f0.f0) ((rd_T33 l1 x40_2).f0.f1) ((rd_T33 l1 x40_2).f1.f0) ((rd_T33 l1 x40_2).f1.f1) bt723.1 bt723.2.1 bt723.2.2.1 bt723.2.2.2).bind fun bt727 => (if bt727.2.2.2.2 = true then (if 0 ≤ (wrap64 ((ji31) + 1)) then (if (wrap64 ((ji31) + 1)) < (l2.length : Int) then (if ((!(bt727.1 == ((rd_T30 l2 (wrap64 ((ji31) + 1))).f0.f0)) || (!(bt727.2.1 == ((rd_T30 l2 (wrap64 ((ji31) + 1))).f0.f1)) || (!(bt727.2.2.1 == ((rd_T30 l2 (wrap64 ((ji31) + 1))).f0.f2))))) || (!(bt727.2.2.2.1 == ((rd_T30 l2 (wrap64 ((ji31) + 1))).f1)))) = true then (some (false, 0)) else (impl_isFree.l2 k2 a0 l2 l1 (l1.length : Int) (wrap64 (x40_2 + 1)))) else (none)) else (none)) else (some (false, 3))))) else (none)) else (none)) = some (r1, r2) := by first | (rw [hji31] at H; exact H) | (simp only [hji31] at H ⊢; exact H)
         have hji31w : (IntKind.i64.wrap (2 * x40_2)) = ji31 := (i64_w _).trans hji31
         by_cases c32 : 0 ≤ (ji31)
         ·rw [if_pos c32] at H
          have c32b0 : decide (0 ≤ (ji31)) = true := decide_eq_true c32
          clear c32
          by_cases c33 : (ji31) < (l2.length : Int)
          ·rw [if_pos c33] at H
           have c33b0 : decide ((ji31) < (l2.length : Int)) = true := decide_eq_true c33
           clear c33
           replace H := Option.bind_eq_some_iff.mp H
           obtain ⟨⟨t723, t724, t725, t726⟩, A340, H⟩ := H
           have A34 := Aside0.mk A340
           clear A340
           replace H := Option.bind_eq_some_iff.mp H
           obtain ⟨⟨t727, t728, t729, t730, t731⟩, A350, H⟩ := H
           have A35 := Aside0.mk A350
           clear A350
           by_cases c36 : t731 = true
           ·subst c36
            have H1 : (if 0 ≤ (wrap64 ((ji31) + 1)) then (if (wrap64 ((ji31) + 1)) < (l2.length : Int) then (if ((!(t727 == ((rd_T30 l2 (wrap64 ((ji31) + 1))).f0.f0)) || (!(t728 == ((rd_T30 l2 (wrap64 ((ji31) + 1))).f0.f1)) || (!(t729 == ((rd_T30 l2 (wrap64 ((ji31) + 1))).f0.f2))))) || (!(t730 == ((rd_T30 l2 (wrap64 ((ji31) + 1))).f1)))) = true then (some (false, 0)) else (impl_isFree.l2 k2 a0 l2 l1 (l1.length : Int) (wrap64 (x40_2 + 1)))) else (none)) else (none)) = some (r1, r2) := by rw [if_pos rfl] at H; exact H
            clear H
            have H := H1
            clear H1
            obtain ⟨ji37, hji37⟩ : ∃ j_ : Int, (wrap64 ((ji31) + 1)) = j_ := ⟨_, rfl⟩
            replace H : (if 0 ≤ (ji37) then (if (ji37) < (l2.length : Int) then (if ((!(t727 == ((rd_T30 l2 (ji37)).f0.f0)) || (!(t728 == ((rd_T30 l2 (ji37)).f0.f1)) || (!(t729 == ((rd_T30 l2 (ji37)).f0.f2))))) || (!(t730 == ((rd_T30 l2 (ji37)).f1)))) = true then (some (false, 0)) else (impl_isFree.l2 k2 a0 l2 l1 (l1.length : Int) (wrap64 (x40_2 + 1)))) else (none)) else (none)) = some (r1, r2) := by first | (rw [hji37] at H; exact H) | (simp only [hji37] at H ⊢; exact H)
            (try rw [hji37] at A34)
            (try rw [hji37] at A35)
            have hji37w : (IntKind.i64.wrap ((ji31) + 1)) = ji37 := (i64_w _).trans hji37
            by_cases c38 : 0 ≤ (ji37)
            ·rw [if_pos c38] at H
             have c38b0 : decide (0 ≤ (ji37)) = true := decide_eq_true c38
             clear c38
             by_cases c39 : (ji37) < (l2.length : Int)
             ·rw [if_pos c39] at H
              have c39b0 : decide ((ji37) < (l2.length : Int)) = true := decide_eq_true c39
              clear c39
              by_cases c40 : ((!(t727 == ((rd_T30 l2 (ji37)).f0.f0)) || (!(t728 == ((rd_T30 l2 (ji37)).f0.f1)) || (!(t729 == ((rd_T30 l2 (ji37)).f0.f2))))) || (!(t730 == ((rd_T30 l2 (ji37)).f1)))) = true
              ·rw [if_pos c40] at H
               have c40b0 : ((!(t727 == ((rd_T30 l2 (ji37)).f0.f0)) || (!(t728 == ((rd_T30 l2 (ji37)).f0.f1)) || (!(t729 == ((rd_T30 l2 (ji37)).f0.f2))))) || (!(t730 == ((rd_T30 l2 (ji37)).f1)))) = true := c40
               clear c40
               simp only [Option.some.injEq, Prod.mk.injEq] at H
               obtain ⟨rfl, rfl⟩ := H
               have p720 : 0 ≤ (x40_2 : Int) := of_decide_eq_true (by first | (with_reducible assumption) | assumption)
               have q720 : x40_2 < (l1.length : Int) := of_decide_eq_true (by first | (with_reducible assumption) | assumption)
               obtain ⟨ad720, e720, hx720_0, hx720_1, hx720_2, hx720_3⟩ := at_T33 HR1.out x40_2 p720 q720
               cases e720
               replace hx720_0 := clTr HB.out hx720_0
               replace hx720_1 := clTr HB.out hx720_1
               replace hx720_2 := clTr HB.out hx720_2
               replace hx720_3 := clTr HB.out hx720_3
               replace p720 := eq_true p720
               replace q720 := eq_true q720
               try go_wp2_with (first | ((with_reducible refine gate_dst (N := 13) rfl ?_); refine bx_ 13 #[.int .i64 0, .int .i64 0, .int .i64 0, .int .i64 0] 33 ?_; intro gb721 hg w41 hbox hb; have BK721 := Aside0.mk (hbox); have GW721 := bs_ HB hg; have GE721 := bs_ HB hg; replace HB := bt_ HB hb; clear hb hbox hg; have hcz42_0 : w41.cell? ⟨gb721, 0, none⟩ = some (.int .i64 0) := (blk_cell BK721.out 0).trans rfl; have hcz42_1 : w41.cell? ⟨gb721, 1, none⟩ = some (.int .i64 0) := (blk_cell BK721.out 1).trans rfl; have hcz42_2 : w41.cell? ⟨gb721, 2, none⟩ = some (.int .i64 0) := (blk_cell BK721.out 2).trans rfl; have hcz42_3 : w41.cell? ⟨gb721, 3, none⟩ = some (.int .i64 0) := (blk_cell BK721.out 3).trans rfl; have hfz42_0 := blk_frozen BK721.out 0; have hfz42_1 := blk_frozen BK721.out 1; have hfz42_2 := blk_frozen BK721.out 2; have hfz42_3 := blk_frozen BK721.out 3))
               have n0_ : Aside0 (((((w41.setCell ⟨gb721, 0, none⟩ (.int .i64 ((rd_T33 l1 x40_2).f0.f0))).setCell ⟨gb721, 1, none⟩ (.int .i64 ((rd_T33 l1 x40_2).f0.f1))).setCell ⟨gb721, 2, none⟩ (.int .i64 ((rd_T33 l1 x40_2).f1.f0))).setCell ⟨gb721, 3, none⟩ (.int .i64 ((rd_T33 l1 x40_2).f1.f1))).heap[gb721]? = some (.cells #[.int .i64 ((rd_T33 l1 x40_2).f0.f0), .int .i64 ((rd_T33 l1 x40_2).f0.f1), .int .i64 ((rd_T33 l1 x40_2).f1.f0), .int .i64 ((rd_T33 l1 x40_2).f1.f1)] 33 (0, 0))) := ⟨by (with_reducible repeat first | apply blk_drewN | apply blk_drew | apply blk_alloc); refine blk_put (cs := #[.int .i64 ((rd_T33 l1 x40_2).f0.f0), .int .i64 ((rd_T33 l1 x40_2).f0.f1), .int .i64 ((rd_T33 l1 x40_2).f1.f0), .int .i64 0]) ?_ 3 _ rfl; (with_reducible repeat first | apply blk_drewN | apply blk_drew | apply blk_alloc); refine blk_put (cs := #[.int .i64 ((rd_T33 l1 x40_2).f0.f0), .int .i64 ((rd_T33 l1 x40_2).f0.f1), .int .i64 0, .int .i64 0]) ?_ 2 _ rfl; (with_reducible repeat first | apply blk_drewN | apply blk_drew | apply blk_alloc); refine blk_put (cs := #[.int .i64 ((rd_T33 l1 x40_2).f0.f0), .int .i64 0, .int .i64 0, .int .i64 0]) ?_ 1 _ rfl; (with_reducible repeat first | apply blk_drewN | apply blk_drew | apply blk_alloc); refine blk_put (cs := #[.int .i64 0, .int .i64 0, .int .i64 0, .int .i64 0]) ?_ 0 _ rfl; (with_reducible repeat first | apply blk_drewN | apply blk_drew | apply blk_alloc); exact BK721.out⟩
               have n1_ : Aside0 (Below w.heap.size w ((((w41.setCell ⟨gb721, 0, none⟩ (.int .i64 ((rd_T33 l1 x40_2).f0.f0))).setCell ⟨gb721, 1, none⟩ (.int .i64 ((rd_T33 l1 x40_2).f0.f1))).setCell ⟨gb721, 2, none⟩ (.int .i64 ((rd_T33 l1 x40_2).f1.f0))).setCell ⟨gb721, 3, none⟩ (.int .i64 ((rd_T33 l1 x40_2).f1.f1)))) := bw_ HB
               (try clear BK721)
               (try clear HB)
               generalize ((((w41.setCell ⟨gb721, 0, none⟩ (.int .i64 ((rd_T33 l1 x40_2).f0.f0))).setCell ⟨gb721, 1, none⟩ (.int .i64 ((rd_T33 l1 x40_2).f0.f1))).setCell ⟨gb721, 2, none⟩ (.int .i64 ((rd_T33 l1 x40_2).f1.f0))).setCell ⟨gb721, 3, none⟩ (.int .i64 ((rd_T33 l1 x40_2).f1.f1))) = w43 at n0_ n1_ ⊢
               have BK721 := n0_
               have HB := n1_
               clear n0_ n1_
               replace BK721 := Aside0.mk (blk_drew BK721.out)
               replace HB := Aside0.mk (below_drew1 HB.out)
               have p722 : 0 ≤ ((ji31) : Int) := of_decide_eq_true (by first | (with_reducible assumption) | assumption)
               have q722 : (ji31) < (l2.length : Int) := of_decide_eq_true (by first | (with_reducible assumption) | assumption)
               obtain ⟨ad722, e722, hx722_0, hx722_1, hx722_2, hx722_3⟩ := at_T30 HR2.out (ji31) p722 q722
               have hw722_3 := hx722_3
               have hw722_2 := hx722_2
               have hw722_1 := hx722_1
               have hw722_0 := hx722_0
               cases e722
               replace hx722_0 := clTr HB.out hx722_0
               replace hx722_1 := clTr HB.out hx722_1
               replace hx722_2 := clTr HB.out hx722_2
               replace hx722_3 := clTr HB.out hx722_3
               replace p722 := eq_true p722
               replace q722 := eq_true q722
               refine start_ (n := 15) (S := fun w' => w'.cell? ⟨gb721, 0, none⟩ = some (.int .i64 ((rd_T33 l1 x40_2).f0.f0)) ∧ w'.cell? ⟨gb721, 1, none⟩ = some (.int .i64 ((rd_T33 l1 x40_2).f0.f1)) ∧ w'.cell? ⟨gb721, 2, none⟩ = some (.int .i64 ((rd_T33 l1 x40_2).f1.f0)) ∧ w'.cell? ⟨gb721, 3, none⟩ = some (.int .i64 ((rd_T33 l1 x40_2).f1.f1)) ∧ w'.cell? (ad722.add (((ji31)).toNat * 4)) = some (.int .i64 ((rd_T30 l2 (ji31)).f0.f0)) ∧ w'.cell? ⟨(ad722.add (((ji31)).toNat * 4)).block, (ad722.add (((ji31)).toNat * 4)).off + 1, none⟩ = some (.int .i64 ((rd_T30 l2 (ji31)).f0.f1)) ∧ w'.cell? ⟨(ad722.add (((ji31)).toNat * 4)).block, (ad722.add (((ji31)).toNat * 4)).off + 2, none⟩ = some (.int .i64 ((rd_T30 l2 (ji31)).f0.f2)) ∧ w'.cell? ⟨(ad722.add (((ji31)).toNat * 4)).block, (ad722.add (((ji31)).toNat * 4)).off + 3, none⟩ = some (.bool ((rd_T30 l2 (ji31)).f1))) (ds := []) #[false, false, false, false, false, false, false, false, false, false, false, false, false, false, false] (by kernel_rfl) rfl rfl ⟨(blk_cell BK721.out 0).trans rfl, (blk_cell BK721.out 1).trans rfl, (blk_cell BK721.out 2).trans rfl, (blk_cell BK721.out 3).trans rfl, (clTr HB.out hw722_0), (clTr HB.out hw722_1), (clTr HB.out hw722_2), (clTr HB.out hw722_3)⟩ (fun hHeld => ?_); refine with_tabW impl_isFree.tab14 impl_isFree.bits14 (fun HT_ HW_ => ?_)
               generalize w43.drew = w44 at BK721 HB hx722_0 hx722_1 hx722_2 hx722_3 hHeld ⊢
               refine pu_ HT_ 0 (some 46) #[true, false, false, false, false, false, false, false, false, false, false, false, false, false, false] ?_
               refine pu_ HT_ 2 (some 48) #[true, false, true, false, false, false, false, false, false, false, false, false, false, false, false] ?_
               refine pu_ HT_ 3 (some 49) #[true, false, true, true, false, false, false, false, false, false, false, false, false, false, false] ?_
               refine pu_ HT_ 4 (some 50) #[true, false, true, true, true, false, false, false, false, false, false, false, false, false, false] ?_
               refine pu_ HT_ 5 (some 51) #[true, false, true, true, true, true, false, false, false, false, false, false, false, false, false] ?_
               refine ta_ HT_ HW_ 1 (some 47) #[true, true, true, true, true, true, false, false, false, false, false, false, false, false, false] hHeld ?_ (hy := by rintro w' ⟨s0, s1, s2, s3, s4, s5, s6, s7⟩; go_simp; with_reducible rfl)
               refine ta_ HT_ HW_ 6 (some 52) #[true, true, true, true, true, true, true, false, false, false, false, false, false, false, false] hHeld ?_ (hy := by rintro w' ⟨s0, s1, s2, s3, s4, s5, s6, s7⟩; go_simp; with_reducible rfl)
               refine join_ (σ := Nat) 2 #[true, true, true, true, true, true, true, true, true, true, true, true, true, false, false] (fun s_ => [(53, .agg #[.int .i64 t723, .int .i64 t724, .int .i64 t725, .bool t726]), (54, .tuple #[.agg #[.int .i64 t727, .int .i64 t728, .int .i64 t729, .bool t730], .bool true]), (14, .pointer (some ⟨s_, 0, none⟩)), (45, .tuple #[.agg #[.int .i64 t727, .int .i64 t728, .int .i64 t729, .bool t730], .bool true]), (55, .agg #[.int .i64 t727, .int .i64 t728, .int .i64 t729, .bool t730]), (56, .bool true)]) (fun s_ w' => (w'.cell? ⟨gb721, 0, none⟩ = some (.int .i64 ((rd_T33 l1 x40_2).f0.f0)) ∧ w'.cell? ⟨gb721, 1, none⟩ = some (.int .i64 ((rd_T33 l1 x40_2).f0.f1)) ∧ w'.cell? ⟨gb721, 2, none⟩ = some (.int .i64 ((rd_T33 l1 x40_2).f1.f0)) ∧ w'.cell? ⟨gb721, 3, none⟩ = some (.int .i64 ((rd_T33 l1 x40_2).f1.f1)) ∧ w'.cell? (ad722.add (((ji31)).toNat * 4)) = some (.int .i64 ((rd_T30 l2 (ji31)).f0.f0)) ∧ w'.cell? ⟨(ad722.add (((ji31)).toNat * 4)).block, (ad722.add (((ji31)).toNat * 4)).off + 1, none⟩ = some (.int .i64 ((rd_T30 l2 (ji31)).f0.f1)) ∧ w'.cell? ⟨(ad722.add (((ji31)).toNat * 4)).block, (ad722.add (((ji31)).toNat * 4)).off + 2, none⟩ = some (.int .i64 ((rd_T30 l2 (ji31)).f0.f2)) ∧ w'.cell? ⟨(ad722.add (((ji31)).toNat * 4)).block, (ad722.add (((ji31)).toNat * 4)).off + 3, none⟩ = some (.bool ((rd_T30 l2 (ji31)).f1))) ∧ (w'.heap[gb721]? = some (.cells #[.int .i64 ((rd_T33 l1 x40_2).f0.f0), .int .i64 ((rd_T33 l1 x40_2).f0.f1), .int .i64 ((rd_T33 l1 x40_2).f1.f0), .int .i64 ((rd_T33 l1 x40_2).f1.f1)] 33 (0, 0))) ∧ (w'.heap[s_]? = some (.cells #[.int .i64 0, .int .i64 0, .int .i64 0, .bool false] 30 (0, 0))) ∧ (w.heap.size ≤ s_) ∧ (w.heap.size ≤ s_) ∧ (gb721 ≠ s_) ∧ (s_ ≠ gb721) ∧ (Below w.heap.size w w')) ?_ ?_
               rotate_left
               ·intro hCont
                refine two_ (i := 7) (j := 12) (Ni := some 53) (Nj := some 14) #[true, true, true, true, true, true, true, true, false, false, false, false, false, false, false] #[true, true, true, true, true, true, true, false, false, false, false, false, true, false, false] rfl rfl rfl rfl (two_of HT_.out (by kernel_rfl)) (by decide) (by decide) (fun K hK => ?_) (fun K hK => ?_)
                ·skip
                 refine goes_ Try.func112 (by kernel_rfl) rfl #[.agg #[.int .i64 ((rd_T30 l2 (ji31)).f0.f0), .int .i64 ((rd_T30 l2 (ji31)).f0.f1), .int .i64 ((rd_T30 l2 (ji31)).f0.f2), .bool ((rd_T30 l2 (ji31)).f1)]] (by rfl) rfl rfl (by (try simp only [List.map_toArray, List.map_cons, List.map_nil]); first | done | (simp only [hji31]; rfl) | rfl | (simp only [List.length_drop, List.length_take]; rfl)) ?_
                 with_reducible refine (impl_opposite.calls ((rd_T30 l2 (ji31)).f0.f0) ((rd_T30 l2 (ji31)).f0.f1) ((rd_T30 l2 (ji31)).f0.f2) ((rd_T30 l2 (ji31)).f1) t723 t724 t725 t726 _ A34.out).mono ?_
                 rintro e w45 ⟨rfl, hb⟩
                 refine ⟨_, rfl, ?_⟩
                 replace BK721 := bb_ BK721 hb
                 replace HB := bt_ HB hb
                 (try clear hb)
                 (try clear hb2)
                 (try clear hk)
                 (try clear hi)
                 refine hK.out _ _ ⟨(blk_cell BK721.out 0).trans rfl, (blk_cell BK721.out 1).trans rfl, (blk_cell BK721.out 2).trans rfl, (blk_cell BK721.out 3).trans rfl, (clTr HB.out hw722_0), (clTr HB.out hw722_1), (clTr HB.out hw722_2), (clTr HB.out hw722_3)⟩ (fun hHeld => ?_)
                 clear hK K
                 refine norm_ (a' := ?_) ?_ ?_
                 rotate_left
                 ·show Act.put _ (some 53) _ = _
                  simp only [Act.put, lstS, lstZ, lstC, i64_w, i32_w]
                  rfl
                 refine two_ (i := 8) (j := 12) (Ni := some 54) (Nj := some 14) #[true, true, true, true, true, true, true, true, true, false, false, false, false, false, false] #[true, true, true, true, true, true, true, true, false, false, false, false, true, false, false] rfl rfl rfl rfl (two_of HT_.out (by kernel_rfl)) (by decide) (by decide) (fun K hK => ?_) (fun K hK => ?_)
                 ·skip
                  refine goes_ Try.func40 (by kernel_rfl) rfl #[.int .i64 a0, .agg #[.int .i64 ((rd_T33 l1 x40_2).f0.f0), .int .i64 ((rd_T33 l1 x40_2).f0.f1), .int .i64 ((rd_T33 l1 x40_2).f1.f0), .int .i64 ((rd_T33 l1 x40_2).f1.f1)], .agg #[.int .i64 t723, .int .i64 t724, .int .i64 t725, .bool t726]] (by rfl) rfl rfl (by (try simp only [List.map_toArray, List.map_cons, List.map_nil]); first | done | rfl | (simp only [List.length_drop, List.length_take]; rfl)) ?_
                  with_reducible refine (impl_moveSide.calls k2 a0 ((rd_T33 l1 x40_2).f0.f0) ((rd_T33 l1 x40_2).f0.f1) ((rd_T33 l1 x40_2).f1.f0) ((rd_T33 l1 x40_2).f1.f1) t723 t724 t725 t726 t727 t728 t729 t730 true _ A35.out).mono ?_
                  rintro e w46 ⟨rfl, hb⟩
                  refine ⟨_, rfl, ?_⟩
                  replace BK721 := bb_ BK721 hb
                  replace HB := bt_ HB hb
                  (try clear hb)
                  (try clear hb2)
                  (try clear hk)
                  (try clear hi)
                  refine hK.out _ _ ⟨(blk_cell BK721.out 0).trans rfl, (blk_cell BK721.out 1).trans rfl, (blk_cell BK721.out 2).trans rfl, (blk_cell BK721.out 3).trans rfl, (clTr HB.out hw722_0), (clTr HB.out hw722_1), (clTr HB.out hw722_2), (clTr HB.out hw722_3)⟩ (fun hHeld => ?_)
                  clear hK K
                  refine norm_ (a' := ?_) ?_ ?_
                  rotate_left
                  ·show Act.put _ (some 54) _ = _
                   simp only [Act.put, lstS, lstZ, lstC, i64_w, i32_w]
                   rfl
                  refine pu_ HT_ 9 (some 45) #[true, true, true, true, true, true, true, true, true, true, false, false, false, false, false] ?_
                  refine pu_ HT_ 10 (some 55) #[true, true, true, true, true, true, true, true, true, true, true, false, false, false, false] ?_
                  refine pu_ HT_ 11 (some 56) #[true, true, true, true, true, true, true, true, true, true, true, true, false, false, false] ?_
                  refine one_ (i := 12) (N := some 14) #[true, true, true, true, true, true, true, true, true, true, true, true, true, false, false] rfl rfl (one_of HT_.out (by kernel_rfl)) (by decide) (fun K hK => ?_)
                  refine box_step ?hg (N := 14) ?hd (cs := #[.int .i64 0, .int .i64 0, .int .i64 0, .bool false]) (t := 30) ?hr ?_; (case hd => rfl); (case hg => rfl); (case hr => first | (go_simp; done) | (go_simp; rfl))
                  intro gb732 hg w47 hbox hb
                  have BK732 := Aside0.mk (hbox)
                  have GW732 := bs_ HB hg
                  have GE732 := bs_ HB hg
                  have NB721_732 := bm_ BK721 hg
                  have NB732_721 := bn_ BK721 hg
                  replace BK721 := bb_ BK721 hb
                  replace HB := bt_ HB hb
                  clear hb hbox hg
                  refine hK.out _ _ ⟨(blk_cell BK721.out 0).trans rfl, (blk_cell BK721.out 1).trans rfl, (blk_cell BK721.out 2).trans rfl, (blk_cell BK721.out 3).trans rfl, (clTr HB.out hw722_0), (clTr HB.out hw722_1), (clTr HB.out hw722_2), (clTr HB.out hw722_3)⟩ (fun hHeld => ?_)
                  clear hK K
                  refine norm_ (a' := ?_) ?_ ?_
                  rotate_left
                  ·show Act.put _ (some 14) _ = _
                   simp only [Act.put, lstS, lstZ, lstC, i64_w, i32_w]
                   rfl
                  exact norm_ (by simp only [putAll, Act.put, lstS, lstZ, lstC]) (hCont (gb732) _ ⟨hHeld, (bl_ BK721).out, (bl_ BK732).out, GW732.out, GE732.out, NB721_732.out, NB732_721.out, (bw_ HB).out⟩)
                 ·skip
                  refine box_step ?hg (N := 14) ?hd (cs := #[.int .i64 0, .int .i64 0, .int .i64 0, .bool false]) (t := 30) ?hr ?_; (case hd => rfl); (case hg => rfl); (case hr => first | (go_simp; done) | (go_simp; rfl))
                  intro gb732 hg w46 hbox hb
                  have BK732 := Aside0.mk (hbox)
                  have GW732 := bs_ HB hg
                  have GE732 := bs_ HB hg
                  have NB721_732 := bm_ BK721 hg
                  have NB732_721 := bn_ BK721 hg
                  replace BK721 := bb_ BK721 hb
                  replace HB := bt_ HB hb
                  clear hb hbox hg
                  refine hK.out _ _ ⟨(blk_cell BK721.out 0).trans rfl, (blk_cell BK721.out 1).trans rfl, (blk_cell BK721.out 2).trans rfl, (blk_cell BK721.out 3).trans rfl, (clTr HB.out hw722_0), (clTr HB.out hw722_1), (clTr HB.out hw722_2), (clTr HB.out hw722_3)⟩ (fun hHeld => ?_)
                  clear hK K
                  refine norm_ (a' := ?_) ?_ ?_
                  rotate_left
                  ·show Act.put _ (some 14) _ = _
                   simp only [Act.put, lstS, lstZ, lstC, i64_w, i32_w]
                   rfl
                  refine one_ (i := 8) (N := some 54) #[true, true, true, true, true, true, true, true, true, false, false, false, true, false, false] rfl rfl (one_of HT_.out (by kernel_rfl)) (by decide) (fun K hK => ?_)
                  refine goes_ Try.func40 (by kernel_rfl) rfl #[.int .i64 a0, .agg #[.int .i64 ((rd_T33 l1 x40_2).f0.f0), .int .i64 ((rd_T33 l1 x40_2).f0.f1), .int .i64 ((rd_T33 l1 x40_2).f1.f0), .int .i64 ((rd_T33 l1 x40_2).f1.f1)], .agg #[.int .i64 t723, .int .i64 t724, .int .i64 t725, .bool t726]] (by rfl) rfl rfl (by (try simp only [List.map_toArray, List.map_cons, List.map_nil]); first | done | rfl | (simp only [List.length_drop, List.length_take]; rfl)) ?_
                  with_reducible refine (impl_moveSide.calls k2 a0 ((rd_T33 l1 x40_2).f0.f0) ((rd_T33 l1 x40_2).f0.f1) ((rd_T33 l1 x40_2).f1.f0) ((rd_T33 l1 x40_2).f1.f1) t723 t724 t725 t726 t727 t728 t729 t730 true _ A35.out).mono ?_
                  rintro e w47 ⟨rfl, hb⟩
                  refine ⟨_, rfl, ?_⟩
                  replace BK721 := bb_ BK721 hb
                  replace BK732 := bb_ BK732 hb
                  replace HB := bt_ HB hb
                  (try clear hb)
                  (try clear hb2)
                  (try clear hk)
                  (try clear hi)
                  refine hK.out _ _ ⟨(blk_cell BK721.out 0).trans rfl, (blk_cell BK721.out 1).trans rfl, (blk_cell BK721.out 2).trans rfl, (blk_cell BK721.out 3).trans rfl, (clTr HB.out hw722_0), (clTr HB.out hw722_1), (clTr HB.out hw722_2), (clTr HB.out hw722_3)⟩ (fun hHeld => ?_)
                  clear hK K
                  refine norm_ (a' := ?_) ?_ ?_
                  rotate_left
                  ·show Act.put _ (some 54) _ = _
                   simp only [Act.put, lstS, lstZ, lstC, i64_w, i32_w]
                   rfl
                  refine pu_ HT_ 9 (some 45) #[true, true, true, true, true, true, true, true, true, true, false, false, true, false, false] ?_
                  refine pu_ HT_ 10 (some 55) #[true, true, true, true, true, true, true, true, true, true, true, false, true, false, false] ?_
                  refine pu_ HT_ 11 (some 56) #[true, true, true, true, true, true, true, true, true, true, true, true, true, false, false] ?_
                  exact norm_ (by simp only [putAll, Act.put, lstS, lstZ, lstC]) (hCont (gb732) _ ⟨hHeld, (bl_ BK721).out, (bl_ BK732).out, GW732.out, GE732.out, NB721_732.out, NB732_721.out, (bw_ HB).out⟩)
                ·skip
                 refine box_step ?hg (N := 14) ?hd (cs := #[.int .i64 0, .int .i64 0, .int .i64 0, .bool false]) (t := 30) ?hr ?_; (case hd => rfl); (case hg => rfl); (case hr => first | (go_simp; done) | (go_simp; rfl))
                 intro gb732 hg w45 hbox hb
                 have BK732 := Aside0.mk (hbox)
                 have GW732 := bs_ HB hg
                 have GE732 := bs_ HB hg
                 have NB721_732 := bm_ BK721 hg
                 have NB732_721 := bn_ BK721 hg
                 replace BK721 := bb_ BK721 hb
                 replace HB := bt_ HB hb
                 clear hb hbox hg
                 refine hK.out _ _ ⟨(blk_cell BK721.out 0).trans rfl, (blk_cell BK721.out 1).trans rfl, (blk_cell BK721.out 2).trans rfl, (blk_cell BK721.out 3).trans rfl, (clTr HB.out hw722_0), (clTr HB.out hw722_1), (clTr HB.out hw722_2), (clTr HB.out hw722_3)⟩ (fun hHeld => ?_)
                 clear hK K
                 refine norm_ (a' := ?_) ?_ ?_
                 rotate_left
                 ·show Act.put _ (some 14) _ = _
                  simp only [Act.put, lstS, lstZ, lstC, i64_w, i32_w]
                  rfl
                 refine one_ (i := 7) (N := some 53) #[true, true, true, true, true, true, true, true, false, false, false, false, true, false, false] rfl rfl (one_of HT_.out (by kernel_rfl)) (by decide) (fun K hK => ?_)
                 refine goes_ Try.func112 (by kernel_rfl) rfl #[.agg #[.int .i64 ((rd_T30 l2 (ji31)).f0.f0), .int .i64 ((rd_T30 l2 (ji31)).f0.f1), .int .i64 ((rd_T30 l2 (ji31)).f0.f2), .bool ((rd_T30 l2 (ji31)).f1)]] (by rfl) rfl rfl (by (try simp only [List.map_toArray, List.map_cons, List.map_nil]); first | done | (simp only [hji31]; rfl) | rfl | (simp only [List.length_drop, List.length_take]; rfl)) ?_
                 with_reducible refine (impl_opposite.calls ((rd_T30 l2 (ji31)).f0.f0) ((rd_T30 l2 (ji31)).f0.f1) ((rd_T30 l2 (ji31)).f0.f2) ((rd_T30 l2 (ji31)).f1) t723 t724 t725 t726 _ A34.out).mono ?_
                 rintro e w46 ⟨rfl, hb⟩
                 refine ⟨_, rfl, ?_⟩
                 replace BK721 := bb_ BK721 hb
                 replace BK732 := bb_ BK732 hb
                 replace HB := bt_ HB hb
                 (try clear hb)
                 (try clear hb2)
                 (try clear hk)
                 (try clear hi)
                 refine hK.out _ _ ⟨(blk_cell BK721.out 0).trans rfl, (blk_cell BK721.out 1).trans rfl, (blk_cell BK721.out 2).trans rfl, (blk_cell BK721.out 3).trans rfl, (clTr HB.out hw722_0), (clTr HB.out hw722_1), (clTr HB.out hw722_2), (clTr HB.out hw722_3)⟩ (fun hHeld => ?_)
                 clear hK K
                 refine norm_ (a' := ?_) ?_ ?_
                 rotate_left
                 ·show Act.put _ (some 53) _ = _
                  simp only [Act.put, lstS, lstZ, lstC, i64_w, i32_w]
                  rfl
                 refine one_ (i := 8) (N := some 54) #[true, true, true, true, true, true, true, true, true, false, false, false, true, false, false] rfl rfl (one_of HT_.out (by kernel_rfl)) (by decide) (fun K hK => ?_)
                 refine goes_ Try.func40 (by kernel_rfl) rfl #[.int .i64 a0, .agg #[.int .i64 ((rd_T33 l1 x40_2).f0.f0), .int .i64 ((rd_T33 l1 x40_2).f0.f1), .int .i64 ((rd_T33 l1 x40_2).f1.f0), .int .i64 ((rd_T33 l1 x40_2).f1.f1)], .agg #[.int .i64 t723, .int .i64 t724, .int .i64 t725, .bool t726]] (by rfl) rfl rfl (by (try simp only [List.map_toArray, List.map_cons, List.map_nil]); first | done | rfl | (simp only [List.length_drop, List.length_take]; rfl)) ?_
                 with_reducible refine (impl_moveSide.calls k2 a0 ((rd_T33 l1 x40_2).f0.f0) ((rd_T33 l1 x40_2).f0.f1) ((rd_T33 l1 x40_2).f1.f0) ((rd_T33 l1 x40_2).f1.f1) t723 t724 t725 t726 t727 t728 t729 t730 true _ A35.out).mono ?_
                 rintro e w47 ⟨rfl, hb⟩
                 refine ⟨_, rfl, ?_⟩
                 replace BK721 := bb_ BK721 hb
                 replace BK732 := bb_ BK732 hb
                 replace HB := bt_ HB hb
                 (try clear hb)
                 (try clear hb2)
                 (try clear hk)
                 (try clear hi)
                 refine hK.out _ _ ⟨(blk_cell BK721.out 0).trans rfl, (blk_cell BK721.out 1).trans rfl, (blk_cell BK721.out 2).trans rfl, (blk_cell BK721.out 3).trans rfl, (clTr HB.out hw722_0), (clTr HB.out hw722_1), (clTr HB.out hw722_2), (clTr HB.out hw722_3)⟩ (fun hHeld => ?_)
                 clear hK K
                 refine norm_ (a' := ?_) ?_ ?_
                 rotate_left
                 ·show Act.put _ (some 54) _ = _
                  simp only [Act.put, lstS, lstZ, lstC, i64_w, i32_w]
                  rfl
                 refine pu_ HT_ 9 (some 45) #[true, true, true, true, true, true, true, true, true, true, false, false, true, false, false] ?_
                 refine pu_ HT_ 10 (some 55) #[true, true, true, true, true, true, true, true, true, true, true, false, true, false, false] ?_
                 refine pu_ HT_ 11 (some 56) #[true, true, true, true, true, true, true, true, true, true, true, true, true, false, false] ?_
                 exact norm_ (by simp only [putAll, Act.put, lstS, lstZ, lstC]) (hCont (gb732) _ ⟨hHeld, (bl_ BK721).out, (bl_ BK732).out, GW732.out, GE732.out, NB721_732.out, NB732_721.out, (bw_ HB).out⟩)
               rintro gb732 w48 ⟨hS_, h0_, h1_, h2_, h3_, h4_, h5_, h6_⟩
               have n0_ : Aside0 (w48.heap[gb721]? = some (.cells #[.int .i64 ((rd_T33 l1 x40_2).f0.f0), .int .i64 ((rd_T33 l1 x40_2).f0.f1), .int .i64 ((rd_T33 l1 x40_2).f1.f0), .int .i64 ((rd_T33 l1 x40_2).f1.f1)] 33 (0, 0))) := ⟨h0_⟩
               have n1_ : Aside0 (w48.heap[gb732]? = some (.cells #[.int .i64 0, .int .i64 0, .int .i64 0, .bool false] 30 (0, 0))) := ⟨h1_⟩
               have n2_ : Aside0 (w.heap.size ≤ gb732) := ⟨h2_⟩
               have n3_ : Aside0 (w.heap.size ≤ gb732) := ⟨h3_⟩
               have n4_ : Aside0 (gb721 ≠ gb732) := ⟨h4_⟩
               have n5_ : Aside0 (gb732 ≠ gb721) := ⟨h5_⟩
               have n6_ : Aside0 (Below w.heap.size w w48) := ⟨h6_⟩
               clear BK721
               clear HB
               clear h0_ h1_ h2_ h3_ h4_ h5_ h6_
               have BK721 := n0_
               have BK732 := n1_
               have GW732 := n2_
               have GE732 := n3_
               have NB721_732 := n4_
               have NB732_721 := n5_
               have HB := n6_
               clear n0_ n1_ n2_ n3_ n4_ n5_ n6_
               have hHeld : w48.cell? ⟨gb721, 0, none⟩ = some (.int .i64 ((rd_T33 l1 x40_2).f0.f0)) ∧ w48.cell? ⟨gb721, 1, none⟩ = some (.int .i64 ((rd_T33 l1 x40_2).f0.f1)) ∧ w48.cell? ⟨gb721, 2, none⟩ = some (.int .i64 ((rd_T33 l1 x40_2).f1.f0)) ∧ w48.cell? ⟨gb721, 3, none⟩ = some (.int .i64 ((rd_T33 l1 x40_2).f1.f1)) ∧ w48.cell? (ad722.add (((ji31)).toNat * 4)) = some (.int .i64 ((rd_T30 l2 (ji31)).f0.f0)) ∧ w48.cell? ⟨(ad722.add (((ji31)).toNat * 4)).block, (ad722.add (((ji31)).toNat * 4)).off + 1, none⟩ = some (.int .i64 ((rd_T30 l2 (ji31)).f0.f1)) ∧ w48.cell? ⟨(ad722.add (((ji31)).toNat * 4)).block, (ad722.add (((ji31)).toNat * 4)).off + 2, none⟩ = some (.int .i64 ((rd_T30 l2 (ji31)).f0.f2)) ∧ w48.cell? ⟨(ad722.add (((ji31)).toNat * 4)).block, (ad722.add (((ji31)).toNat * 4)).off + 3, none⟩ = some (.bool ((rd_T30 l2 (ji31)).f1)) := hS_
               refine norm_ (a' := ?_) ?_ ?_
               rotate_left
               ·simp only [putAll, Act.put, lstS, lstZ, lstC]
                rfl
               refine one_ (i := 13) (N := none) #[true, true, true, true, true, true, true, true, true, true, true, true, true, true, false] rfl rfl (one_of HT_.out (by kernel_rfl)) (by decide) (fun K hK => ?_)
               have hs49 : w48.cell? ⟨gb732, 0, none⟩ = some (.int .i64 0) := (blk_cell BK732.out 0).trans rfl
               have hfs49 := blk_frozen BK732.out 0
               have hns49_0 := NB721_732.out
               have hms49_0 := NB732_721.out
               have hs50 : w48.cell? ⟨gb732, 1, none⟩ = some (.int .i64 0) := (blk_cell BK732.out 1).trans rfl
               have hfs50 := blk_frozen BK732.out 1
               have hns50_0 := NB721_732.out
               have hms50_0 := NB732_721.out
               have hs51 : w48.cell? ⟨gb732, 2, none⟩ = some (.int .i64 0) := (blk_cell BK732.out 2).trans rfl
               have hfs51 := blk_frozen BK732.out 2
               have hns51_0 := NB721_732.out
               have hms51_0 := NB732_721.out
               have hs52 : w48.cell? ⟨gb732, 3, none⟩ = some (.bool false) := (blk_cell BK732.out 3).trans rfl
               have hfs52 := blk_frozen BK732.out 3
               have hns52_0 := NB721_732.out
               have hms52_0 := NB732_721.out
               refine skip_ (w1 := ?_) (by rfl) rfl ?_ ?_
               rotate_left
               ·go_simp
                rfl
               refine hK.out _ _ ⟨((cell_far (p := ⟨gb732, _, none⟩) NB721_732.out _).trans (((cell_far (p := ⟨gb732, _, none⟩) NB721_732.out _).trans (((cell_far (p := ⟨gb732, _, none⟩) NB721_732.out _).trans (((cell_far (p := ⟨gb732, _, none⟩) NB721_732.out _).trans (hHeld.1)))))))), ((cell_far (p := ⟨gb732, _, none⟩) NB721_732.out _).trans (((cell_far (p := ⟨gb732, _, none⟩) NB721_732.out _).trans (((cell_far (p := ⟨gb732, _, none⟩) NB721_732.out _).trans (((cell_far (p := ⟨gb732, _, none⟩) NB721_732.out _).trans (hHeld.2.1)))))))), ((cell_far (p := ⟨gb732, _, none⟩) NB721_732.out _).trans (((cell_far (p := ⟨gb732, _, none⟩) NB721_732.out _).trans (((cell_far (p := ⟨gb732, _, none⟩) NB721_732.out _).trans (((cell_far (p := ⟨gb732, _, none⟩) NB721_732.out _).trans (hHeld.2.2.1)))))))), ((cell_far (p := ⟨gb732, _, none⟩) NB721_732.out _).trans (((cell_far (p := ⟨gb732, _, none⟩) NB721_732.out _).trans (((cell_far (p := ⟨gb732, _, none⟩) NB721_732.out _).trans (((cell_far (p := ⟨gb732, _, none⟩) NB721_732.out _).trans (hHeld.2.2.2.1)))))))), ((cell_far (p := ⟨gb732, _, none⟩) (by first | exact Nat.ne_of_lt (Nat.lt_of_lt_of_le (by have := World.block_lt_of_cell? _ _ hw722_0; first | rwa [add_block] at this | exact this) GW732.out) | (rw [add_block]; exact Nat.ne_of_lt (Nat.lt_of_lt_of_le (by have := World.block_lt_of_cell? _ _ hw722_0; first | rwa [add_block] at this | exact this) GW732.out)) | (show (Addr.add _ _).block ≠ _; rw [add_block]; exact Nat.ne_of_lt (Nat.lt_of_lt_of_le (by have := World.block_lt_of_cell? _ _ hw722_0; first | rwa [add_block] at this | exact this) GW732.out)) | (dsimp only; exact Nat.ne_of_lt (Nat.lt_of_lt_of_le (by have := World.block_lt_of_cell? _ _ hw722_0; first | rwa [add_block] at this | exact this) GW732.out))) _).trans (((cell_far (p := ⟨gb732, _, none⟩) (by first | exact Nat.ne_of_lt (Nat.lt_of_lt_of_le (by have := World.block_lt_of_cell? _ _ hw722_0; first | rwa [add_block] at this | exact this) GW732.out) | (rw [add_block]; exact Nat.ne_of_lt (Nat.lt_of_lt_of_le (by have := World.block_lt_of_cell? _ _ hw722_0; first | rwa [add_block] at this | exact this) GW732.out)) | (show (Addr.add _ _).block ≠ _; rw [add_block]; exact Nat.ne_of_lt (Nat.lt_of_lt_of_le (by have := World.block_lt_of_cell? _ _ hw722_0; first | rwa [add_block] at this | exact this) GW732.out)) | (dsimp only; exact Nat.ne_of_lt (Nat.lt_of_lt_of_le (by have := World.block_lt_of_cell? _ _ hw722_0; first | rwa [add_block] at this | exact this) GW732.out))) _).trans (((cell_far (p := ⟨gb732, _, none⟩) (by first | exact Nat.ne_of_lt (Nat.lt_of_lt_of_le (by have := World.block_lt_of_cell? _ _ hw722_0; first | rwa [add_block] at this | exact this) GW732.out) | (rw [add_block]; exact Nat.ne_of_lt (Nat.lt_of_lt_of_le (by have := World.block_lt_of_cell? _ _ hw722_0; first | rwa [add_block] at this | exact this) GW732.out)) | (show (Addr.add _ _).block ≠ _; rw [add_block]; exact Nat.ne_of_lt (Nat.lt_of_lt_of_le (by have := World.block_lt_of_cell? _ _ hw722_0; first | rwa [add_block] at this | exact this) GW732.out)) | (dsimp only; exact Nat.ne_of_lt (Nat.lt_of_lt_of_le (by have := World.block_lt_of_cell? _ _ hw722_0; first | rwa [add_block] at this | exact this) GW732.out))) _).trans (((cell_far (p := ⟨gb732, _, none⟩) (by first | exact Nat.ne_of_lt (Nat.lt_of_lt_of_le (by have := World.block_lt_of_cell? _ _ hw722_0; first | rwa [add_block] at this | exact this) GW732.out) | (rw [add_block]; exact Nat.ne_of_lt (Nat.lt_of_lt_of_le (by have := World.block_lt_of_cell? _ _ hw722_0; first | rwa [add_block] at this | exact this) GW732.out)) | (show (Addr.add _ _).block ≠ _; rw [add_block]; exact Nat.ne_of_lt (Nat.lt_of_lt_of_le (by have := World.block_lt_of_cell? _ _ hw722_0; first | rwa [add_block] at this | exact this) GW732.out)) | (dsimp only; exact Nat.ne_of_lt (Nat.lt_of_lt_of_le (by have := World.block_lt_of_cell? _ _ hw722_0; first | rwa [add_block] at this | exact this) GW732.out))) _).trans (hHeld.2.2.2.2.1)))))))), ((cell_far (p := ⟨gb732, _, none⟩) (by first | exact Nat.ne_of_lt (Nat.lt_of_lt_of_le (by have := World.block_lt_of_cell? _ _ hw722_1; first | rwa [add_block] at this | exact this) GW732.out) | (rw [add_block]; exact Nat.ne_of_lt (Nat.lt_of_lt_of_le (by have := World.block_lt_of_cell? _ _ hw722_1; first | rwa [add_block] at this | exact this) GW732.out)) | (show (Addr.add _ _).block ≠ _; rw [add_block]; exact Nat.ne_of_lt (Nat.lt_of_lt_of_le (by have := World.block_lt_of_cell? _ _ hw722_1; first | rwa [add_block] at this | exact this) GW732.out)) | (dsimp only; exact Nat.ne_of_lt (Nat.lt_of_lt_of_le (by have := World.block_lt_of_cell? _ _ hw722_1; first | rwa [add_block] at this | exact this) GW732.out))) _).trans (((cell_far (p := ⟨gb732, _, none⟩) (by first | exact Nat.ne_of_lt (Nat.lt_of_lt_of_le (by have := World.block_lt_of_cell? _ _ hw722_1; first | rwa [add_block] at this | exact this) GW732.out) | (rw [add_block]; exact Nat.ne_of_lt (Nat.lt_of_lt_of_le (by have := World.block_lt_of_cell? _ _ hw722_1; first | rwa [add_block] at this | exact this) GW732.out)) | (show (Addr.add _ _).block ≠ _; rw [add_block]; exact Nat.ne_of_lt (Nat.lt_of_lt_of_le (by have := World.block_lt_of_cell? _ _ hw722_1; first | rwa [add_block] at this | exact this) GW732.out)) | (dsimp only; exact Nat.ne_of_lt (Nat.lt_of_lt_of_le (by have := World.block_lt_of_cell? _ _ hw722_1; first | rwa [add_block] at this | exact this) GW732.out))) _).trans (((cell_far (p := ⟨gb732, _, none⟩) (by first | exact Nat.ne_of_lt (Nat.lt_of_lt_of_le (by have := World.block_lt_of_cell? _ _ hw722_1; first | rwa [add_block] at this | exact this) GW732.out) | (rw [add_block]; exact Nat.ne_of_lt (Nat.lt_of_lt_of_le (by have := World.block_lt_of_cell? _ _ hw722_1; first | rwa [add_block] at this | exact this) GW732.out)) | (show (Addr.add _ _).block ≠ _; rw [add_block]; exact Nat.ne_of_lt (Nat.lt_of_lt_of_le (by have := World.block_lt_of_cell? _ _ hw722_1; first | rwa [add_block] at this | exact this) GW732.out)) | (dsimp only; exact Nat.ne_of_lt (Nat.lt_of_lt_of_le (by have := World.block_lt_of_cell? _ _ hw722_1; first | rwa [add_block] at this | exact this) GW732.out))) _).trans (((cell_far (p := ⟨gb732, _, none⟩) (by first | exact Nat.ne_of_lt (Nat.lt_of_lt_of_le (by have := World.block_lt_of_cell? _ _ hw722_1; first | rwa [add_block] at this | exact this) GW732.out) | (rw [add_block]; exact Nat.ne_of_lt (Nat.lt_of_lt_of_le (by have := World.block_lt_of_cell? _ _ hw722_1; first | rwa [add_block] at this | exact this) GW732.out)) | (show (Addr.add _ _).block ≠ _; rw [add_block]; exact Nat.ne_of_lt (Nat.lt_of_lt_of_le (by have := World.block_lt_of_cell? _ _ hw722_1; first | rwa [add_block] at this | exact this) GW732.out)) | (dsimp only; exact Nat.ne_of_lt (Nat.lt_of_lt_of_le (by have := World.block_lt_of_cell? _ _ hw722_1; first | rwa [add_block] at this | exact this) GW732.out))) _).trans (hHeld.2.2.2.2.2.1)))))))), ((cell_far (p := ⟨gb732, _, none⟩) (by first | exact Nat.ne_of_lt (Nat.lt_of_lt_of_le (by have := World.block_lt_of_cell? _ _ hw722_2; first | rwa [add_block] at this | exact this) GW732.out) | (rw [add_block]; exact Nat.ne_of_lt (Nat.lt_of_lt_of_le (by have := World.block_lt_of_cell? _ _ hw722_2; first | rwa [add_block] at this | exact this) GW732.out)) | (show (Addr.add _ _).block ≠ _; rw [add_block]; exact Nat.ne_of_lt (Nat.lt_of_lt_of_le (by have := World.block_lt_of_cell? _ _ hw722_2; first | rwa [add_block] at this | exact this) GW732.out)) | (dsimp only; exact Nat.ne_of_lt (Nat.lt_of_lt_of_le (by have := World.block_lt_of_cell? _ _ hw722_2; first | rwa [add_block] at this | exact this) GW732.out))) _).trans (((cell_far (p := ⟨gb732, _, none⟩) (by first | exact Nat.ne_of_lt (Nat.lt_of_lt_of_le (by have := World.block_lt_of_cell? _ _ hw722_2; first | rwa [add_block] at this | exact this) GW732.out) | (rw [add_block]; exact Nat.ne_of_lt (Nat.lt_of_lt_of_le (by have := World.block_lt_of_cell? _ _ hw722_2; first | rwa [add_block] at this | exact this) GW732.out)) | (show (Addr.add _ _).block ≠ _; rw [add_block]; exact Nat.ne_of_lt (Nat.lt_of_lt_of_le (by have := World.block_lt_of_cell? _ _ hw722_2; first | rwa [add_block] at this | exact this) GW732.out)) | (dsimp only; exact Nat.ne_of_lt (Nat.lt_of_lt_of_le (by have := World.block_lt_of_cell? _ _ hw722_2; first | rwa [add_block] at this | exact this) GW732.out))) _).trans (((cell_far (p := ⟨gb732, _, none⟩) (by first | exact Nat.ne_of_lt (Nat.lt_of_lt_of_le (by have := World.block_lt_of_cell? _ _ hw722_2; first | rwa [add_block] at this | exact this) GW732.out) | (rw [add_block]; exact Nat.ne_of_lt (Nat.lt_of_lt_of_le (by have := World.block_lt_of_cell? _ _ hw722_2; first | rwa [add_block] at this | exact this) GW732.out)) | (show (Addr.add _ _).block ≠ _; rw [add_block]; exact Nat.ne_of_lt (Nat.lt_of_lt_of_le (by have := World.block_lt_of_cell? _ _ hw722_2; first | rwa [add_block] at this | exact this) GW732.out)) | (dsimp only; exact Nat.ne_of_lt (Nat.lt_of_lt_of_le (by have := World.block_lt_of_cell? _ _ hw722_2; first | rwa [add_block] at this | exact this) GW732.out))) _).trans (((cell_far (p := ⟨gb732, _, none⟩) (by first | exact Nat.ne_of_lt (Nat.lt_of_lt_of_le (by have := World.block_lt_of_cell? _ _ hw722_2; first | rwa [add_block] at this | exact this) GW732.out) | (rw [add_block]; exact Nat.ne_of_lt (Nat.lt_of_lt_of_le (by have := World.block_lt_of_cell? _ _ hw722_2; first | rwa [add_block] at this | exact this) GW732.out)) | (show (Addr.add _ _).block ≠ _; rw [add_block]; exact Nat.ne_of_lt (Nat.lt_of_lt_of_le (by have := World.block_lt_of_cell? _ _ hw722_2; first | rwa [add_block] at this | exact this) GW732.out)) | (dsimp only; exact Nat.ne_of_lt (Nat.lt_of_lt_of_le (by have := World.block_lt_of_cell? _ _ hw722_2; first | rwa [add_block] at this | exact this) GW732.out))) _).trans (hHeld.2.2.2.2.2.2.1)))))))), ((cell_far (p := ⟨gb732, _, none⟩) (by first | exact Nat.ne_of_lt (Nat.lt_of_lt_of_le (by have := World.block_lt_of_cell? _ _ hw722_3; first | rwa [add_block] at this | exact this) GW732.out) | (rw [add_block]; exact Nat.ne_of_lt (Nat.lt_of_lt_of_le (by have := World.block_lt_of_cell? _ _ hw722_3; first | rwa [add_block] at this | exact this) GW732.out)) | (show (Addr.add _ _).block ≠ _; rw [add_block]; exact Nat.ne_of_lt (Nat.lt_of_lt_of_le (by have := World.block_lt_of_cell? _ _ hw722_3; first | rwa [add_block] at this | exact this) GW732.out)) | (dsimp only; exact Nat.ne_of_lt (Nat.lt_of_lt_of_le (by have := World.block_lt_of_cell? _ _ hw722_3; first | rwa [add_block] at this | exact this) GW732.out))) _).trans (((cell_far (p := ⟨gb732, _, none⟩) (by first | exact Nat.ne_of_lt (Nat.lt_of_lt_of_le (by have := World.block_lt_of_cell? _ _ hw722_3; first | rwa [add_block] at this | exact this) GW732.out) | (rw [add_block]; exact Nat.ne_of_lt (Nat.lt_of_lt_of_le (by have := World.block_lt_of_cell? _ _ hw722_3; first | rwa [add_block] at this | exact this) GW732.out)) | (show (Addr.add _ _).block ≠ _; rw [add_block]; exact Nat.ne_of_lt (Nat.lt_of_lt_of_le (by have := World.block_lt_of_cell? _ _ hw722_3; first | rwa [add_block] at this | exact this) GW732.out)) | (dsimp only; exact Nat.ne_of_lt (Nat.lt_of_lt_of_le (by have := World.block_lt_of_cell? _ _ hw722_3; first | rwa [add_block] at this | exact this) GW732.out))) _).trans (((cell_far (p := ⟨gb732, _, none⟩) (by first | exact Nat.ne_of_lt (Nat.lt_of_lt_of_le (by have := World.block_lt_of_cell? _ _ hw722_3; first | rwa [add_block] at this | exact this) GW732.out) | (rw [add_block]; exact Nat.ne_of_lt (Nat.lt_of_lt_of_le (by have := World.block_lt_of_cell? _ _ hw722_3; first | rwa [add_block] at this | exact this) GW732.out)) | (show (Addr.add _ _).block ≠ _; rw [add_block]; exact Nat.ne_of_lt (Nat.lt_of_lt_of_le (by have := World.block_lt_of_cell? _ _ hw722_3; first | rwa [add_block] at this | exact this) GW732.out)) | (dsimp only; exact Nat.ne_of_lt (Nat.lt_of_lt_of_le (by have := World.block_lt_of_cell? _ _ hw722_3; first | rwa [add_block] at this | exact this) GW732.out))) _).trans (((cell_far (p := ⟨gb732, _, none⟩) (by first | exact Nat.ne_of_lt (Nat.lt_of_lt_of_le (by have := World.block_lt_of_cell? _ _ hw722_3; first | rwa [add_block] at this | exact this) GW732.out) | (rw [add_block]; exact Nat.ne_of_lt (Nat.lt_of_lt_of_le (by have := World.block_lt_of_cell? _ _ hw722_3; first | rwa [add_block] at this | exact this) GW732.out)) | (show (Addr.add _ _).block ≠ _; rw [add_block]; exact Nat.ne_of_lt (Nat.lt_of_lt_of_le (by have := World.block_lt_of_cell? _ _ hw722_3; first | rwa [add_block] at this | exact this) GW732.out)) | (dsimp only; exact Nat.ne_of_lt (Nat.lt_of_lt_of_le (by have := World.block_lt_of_cell? _ _ hw722_3; first | rwa [add_block] at this | exact this) GW732.out))) _).trans (hHeld.2.2.2.2.2.2.2))))))))⟩ (fun hHeld => ?_)
               clear hK K
               refine pu_ HT_ 14 (some 15) #[true, true, true, true, true, true, true, true, true, true, true, true, true, true, true] ?_
               refine done_ (done_of HT_.out (by kernel_rfl)) ?_
               try go_wp2
               have n0_ : Aside0 (((((w48.setCell ⟨gb732, 0, none⟩ (.int .i64 t727)).setCell ⟨gb732, 1, none⟩ (.int .i64 t728)).setCell ⟨gb732, 2, none⟩ (.int .i64 t729)).setCell ⟨gb732, 3, none⟩ (.bool t730)).heap[gb721]? = some (.cells #[.int .i64 ((rd_T33 l1 x40_2).f0.f0), .int .i64 ((rd_T33 l1 x40_2).f0.f1), .int .i64 ((rd_T33 l1 x40_2).f1.f0), .int .i64 ((rd_T33 l1 x40_2).f1.f1)] 33 (0, 0))) := ⟨by (with_reducible repeat first | apply blk_drewN | apply blk_drew | apply blk_alloc); refine blk_far ?_ NB721_732.out _; (with_reducible repeat first | apply blk_drewN | apply blk_drew | apply blk_alloc); refine blk_far ?_ NB721_732.out _; (with_reducible repeat first | apply blk_drewN | apply blk_drew | apply blk_alloc); refine blk_far ?_ NB721_732.out _; (with_reducible repeat first | apply blk_drewN | apply blk_drew | apply blk_alloc); refine blk_far ?_ NB721_732.out _; (with_reducible repeat first | apply blk_drewN | apply blk_drew | apply blk_alloc); exact BK721.out⟩
               have n1_ : Aside0 (((((w48.setCell ⟨gb732, 0, none⟩ (.int .i64 t727)).setCell ⟨gb732, 1, none⟩ (.int .i64 t728)).setCell ⟨gb732, 2, none⟩ (.int .i64 t729)).setCell ⟨gb732, 3, none⟩ (.bool t730)).heap[gb732]? = some (.cells #[.int .i64 t727, .int .i64 t728, .int .i64 t729, .bool t730] 30 (0, 0))) := ⟨by (with_reducible repeat first | apply blk_drewN | apply blk_drew | apply blk_alloc); refine blk_put (cs := #[.int .i64 t727, .int .i64 t728, .int .i64 t729, .bool false]) ?_ 3 _ rfl; (with_reducible repeat first | apply blk_drewN | apply blk_drew | apply blk_alloc); refine blk_put (cs := #[.int .i64 t727, .int .i64 t728, .int .i64 0, .bool false]) ?_ 2 _ rfl; (with_reducible repeat first | apply blk_drewN | apply blk_drew | apply blk_alloc); refine blk_put (cs := #[.int .i64 t727, .int .i64 0, .int .i64 0, .bool false]) ?_ 1 _ rfl; (with_reducible repeat first | apply blk_drewN | apply blk_drew | apply blk_alloc); refine blk_put (cs := #[.int .i64 0, .int .i64 0, .int .i64 0, .bool false]) ?_ 0 _ rfl; (with_reducible repeat first | apply blk_drewN | apply blk_drew | apply blk_alloc); exact BK732.out⟩
               have n2_ : Aside0 (Below w.heap.size w ((((w48.setCell ⟨gb732, 0, none⟩ (.int .i64 t727)).setCell ⟨gb732, 1, none⟩ (.int .i64 t728)).setCell ⟨gb732, 2, none⟩ (.int .i64 t729)).setCell ⟨gb732, 3, none⟩ (.bool t730))) := bw_ HB
               (try clear BK721)
               (try clear BK732)
               (try clear HB)
               generalize ((((w48.setCell ⟨gb732, 0, none⟩ (.int .i64 t727)).setCell ⟨gb732, 1, none⟩ (.int .i64 t728)).setCell ⟨gb732, 2, none⟩ (.int .i64 t729)).setCell ⟨gb732, 3, none⟩ (.bool t730)) = w53 at n0_ n1_ n2_ ⊢
               have BK721 := n0_
               have BK732 := n1_
               have HB := n2_
               clear n0_ n1_ n2_
               replace BK721 := Aside0.mk (blk_drew BK721.out)
               replace BK732 := Aside0.mk (blk_drew BK732.out)
               replace HB := Aside0.mk (below_drew1 HB.out)
               have p733 : 0 ≤ ((ji37) : Int) := of_decide_eq_true (by first | (with_reducible assumption) | assumption)
               have q733 : (ji37) < (l2.length : Int) := of_decide_eq_true (by first | (with_reducible assumption) | assumption)
               obtain ⟨ad733, e733, hx733_0, hx733_1, hx733_2, hx733_3⟩ := at_T30 HR2.out (ji37) p733 q733
               have hw733_3 := hx733_3
               have hw733_2 := hx733_2
               have hw733_1 := hx733_1
               have hw733_0 := hx733_0
               obtain rfl : ad722 = ad733 := (by injection e733)
               replace hx733_0 := clTr HB.out hx733_0
               replace hx733_1 := clTr HB.out hx733_1
               replace hx733_2 := clTr HB.out hx733_2
               replace hx733_3 := clTr HB.out hx733_3
               replace p733 := eq_true p733
               replace q733 := eq_true q733
               refine start_ (n := 9) (S := fun w' => w'.cell? ⟨gb732, 0, none⟩ = some (.int .i64 t727) ∧ w'.cell? ⟨gb732, 1, none⟩ = some (.int .i64 t728) ∧ w'.cell? ⟨gb732, 2, none⟩ = some (.int .i64 t729) ∧ w'.cell? ⟨gb732, 3, none⟩ = some (.bool t730) ∧ w'.cell? (ad722.add (((ji37)).toNat * 4)) = some (.int .i64 ((rd_T30 l2 (ji37)).f0.f0)) ∧ w'.cell? ⟨(ad722.add (((ji37)).toNat * 4)).block, (ad722.add (((ji37)).toNat * 4)).off + 1, none⟩ = some (.int .i64 ((rd_T30 l2 (ji37)).f0.f1)) ∧ w'.cell? ⟨(ad722.add (((ji37)).toNat * 4)).block, (ad722.add (((ji37)).toNat * 4)).off + 2, none⟩ = some (.int .i64 ((rd_T30 l2 (ji37)).f0.f2)) ∧ w'.cell? ⟨(ad722.add (((ji37)).toNat * 4)).block, (ad722.add (((ji37)).toNat * 4)).off + 3, none⟩ = some (.bool ((rd_T30 l2 (ji37)).f1))) (ds := []) #[false, false, false, false, false, false, false, false, false] (by kernel_rfl) rfl rfl ⟨(blk_cell BK732.out 0).trans rfl, (blk_cell BK732.out 1).trans rfl, (blk_cell BK732.out 2).trans rfl, (blk_cell BK732.out 3).trans rfl, (clTr HB.out hw733_0), (clTr HB.out hw733_1), (clTr HB.out hw733_2), (clTr HB.out hw733_3)⟩ (fun hHeld => ?_); refine with_tabW impl_isFree.tab17 impl_isFree.bits17 (fun HT_ HW_ => ?_)
               generalize w53.drew = w54 at BK721 BK732 HB hx733_0 hx733_1 hx733_2 hx733_3 hHeld ⊢
               refine pu_ HT_ 1 (some 62) #[false, true, false, false, false, false, false, false, false] ?_
               refine pu_ HT_ 2 (some 63) #[false, true, true, false, false, false, false, false, false] ?_
               refine pu_ HT_ 3 (some 64) #[false, true, true, true, false, false, false, false, false] ?_
               refine pu_ HT_ 4 (some 65) #[false, true, true, true, true, false, false, false, false] ?_
               refine pu_ HT_ 5 (some 66) #[false, true, true, true, true, true, false, false, false] ?_
               refine ta_ HT_ HW_ 0 (some 61) #[true, true, true, true, true, true, false, false, false] hHeld ?_ (hy := by rintro w' ⟨s0, s1, s2, s3, s4, s5, s6, s7⟩; go_simp; with_reducible rfl)
               refine ta_ HT_ HW_ 6 (some 67) #[true, true, true, true, true, true, true, false, false] hHeld ?_ (hy := by rintro w' ⟨s0, s1, s2, s3, s4, s5, s6, s7⟩; go_simp; with_reducible rfl)
               refine pu_ HT_ 7 (some 68) #[true, true, true, true, true, true, true, true, false] ?_
               refine pu_ HT_ 8 (some 60) #[true, true, true, true, true, true, true, true, true] ?_
               refine done_ (done_of HT_.out (by kernel_rfl)) ?_
               try go_wp2
               go_ret2
               exact ⟨by first | rfl | (simp [errW_none, errW_some] <;> rfl) | (simp only [← hji31, ← hji37]; first | rfl | (simp [errW_none, errW_some] <;> rfl)) | (simp [*, errW_none, errW_some] <;> rfl), by repeat (first | (with_reducible first | exact HB.out | apply below_alloc | apply pw_below_drewN | apply below_drew1 | refine below_set ?_ GE721.out | refine below_set ?_ GE732.out) | exact HB.out)⟩
              ·rw [if_neg c40] at H
               have c40b0 : ((!(t727 == ((rd_T30 l2 (ji37)).f0.f0)) || (!(t728 == ((rd_T30 l2 (ji37)).f0.f1)) || (!(t729 == ((rd_T30 l2 (ji37)).f0.f2))))) || (!(t730 == ((rd_T30 l2 (ji37)).f1)))) = false := by simpa using c40
               clear c40
               have H' := Aside0.mk H
               clear H
               have p720 : 0 ≤ (x40_2 : Int) := of_decide_eq_true (by first | (with_reducible assumption) | assumption)
               have q720 : x40_2 < (l1.length : Int) := of_decide_eq_true (by first | (with_reducible assumption) | assumption)
               obtain ⟨ad720, e720, hx720_0, hx720_1, hx720_2, hx720_3⟩ := at_T33 HR1.out x40_2 p720 q720
               cases e720
               replace hx720_0 := clTr HB.out hx720_0
               replace hx720_1 := clTr HB.out hx720_1
               replace hx720_2 := clTr HB.out hx720_2
               replace hx720_3 := clTr HB.out hx720_3
               replace p720 := eq_true p720
               replace q720 := eq_true q720
               try go_wp2_with (first | ((with_reducible refine gate_dst (N := 13) rfl ?_); refine bx_ 13 #[.int .i64 0, .int .i64 0, .int .i64 0, .int .i64 0] 33 ?_; intro gb721 hg w55 hbox hb; have BK721 := Aside0.mk (hbox); have GW721 := bs_ HB hg; have GE721 := bs_ HB hg; replace HB := bt_ HB hb; clear hb hbox hg; have hcz56_0 : w55.cell? ⟨gb721, 0, none⟩ = some (.int .i64 0) := (blk_cell BK721.out 0).trans rfl; have hcz56_1 : w55.cell? ⟨gb721, 1, none⟩ = some (.int .i64 0) := (blk_cell BK721.out 1).trans rfl; have hcz56_2 : w55.cell? ⟨gb721, 2, none⟩ = some (.int .i64 0) := (blk_cell BK721.out 2).trans rfl; have hcz56_3 : w55.cell? ⟨gb721, 3, none⟩ = some (.int .i64 0) := (blk_cell BK721.out 3).trans rfl; have hfz56_0 := blk_frozen BK721.out 0; have hfz56_1 := blk_frozen BK721.out 1; have hfz56_2 := blk_frozen BK721.out 2; have hfz56_3 := blk_frozen BK721.out 3))
               have n0_ : Aside0 (((((w55.setCell ⟨gb721, 0, none⟩ (.int .i64 ((rd_T33 l1 x40_2).f0.f0))).setCell ⟨gb721, 1, none⟩ (.int .i64 ((rd_T33 l1 x40_2).f0.f1))).setCell ⟨gb721, 2, none⟩ (.int .i64 ((rd_T33 l1 x40_2).f1.f0))).setCell ⟨gb721, 3, none⟩ (.int .i64 ((rd_T33 l1 x40_2).f1.f1))).heap[gb721]? = some (.cells #[.int .i64 ((rd_T33 l1 x40_2).f0.f0), .int .i64 ((rd_T33 l1 x40_2).f0.f1), .int .i64 ((rd_T33 l1 x40_2).f1.f0), .int .i64 ((rd_T33 l1 x40_2).f1.f1)] 33 (0, 0))) := ⟨by (with_reducible repeat first | apply blk_drewN | apply blk_drew | apply blk_alloc); refine blk_put (cs := #[.int .i64 ((rd_T33 l1 x40_2).f0.f0), .int .i64 ((rd_T33 l1 x40_2).f0.f1), .int .i64 ((rd_T33 l1 x40_2).f1.f0), .int .i64 0]) ?_ 3 _ rfl; (with_reducible repeat first | apply blk_drewN | apply blk_drew | apply blk_alloc); refine blk_put (cs := #[.int .i64 ((rd_T33 l1 x40_2).f0.f0), .int .i64 ((rd_T33 l1 x40_2).f0.f1), .int .i64 0, .int .i64 0]) ?_ 2 _ rfl; (with_reducible repeat first | apply blk_drewN | apply blk_drew | apply blk_alloc); refine blk_put (cs := #[.int .i64 ((rd_T33 l1 x40_2).f0.f0), .int .i64 0, .int .i64 0, .int .i64 0]) ?_ 1 _ rfl; (with_reducible repeat first | apply blk_drewN | apply blk_drew | apply blk_alloc); refine blk_put (cs := #[.int .i64 0, .int .i64 0, .int .i64 0, .int .i64 0]) ?_ 0 _ rfl; (with_reducible repeat first | apply blk_drewN | apply blk_drew | apply blk_alloc); exact BK721.out⟩
               have n1_ : Aside0 (Below w.heap.size w ((((w55.setCell ⟨gb721, 0, none⟩ (.int .i64 ((rd_T33 l1 x40_2).f0.f0))).setCell ⟨gb721, 1, none⟩ (.int .i64 ((rd_T33 l1 x40_2).f0.f1))).setCell ⟨gb721, 2, none⟩ (.int .i64 ((rd_T33 l1 x40_2).f1.f0))).setCell ⟨gb721, 3, none⟩ (.int .i64 ((rd_T33 l1 x40_2).f1.f1)))) := bw_ HB
               (try clear BK721)
               (try clear HB)
               generalize ((((w55.setCell ⟨gb721, 0, none⟩ (.int .i64 ((rd_T33 l1 x40_2).f0.f0))).setCell ⟨gb721, 1, none⟩ (.int .i64 ((rd_T33 l1 x40_2).f0.f1))).setCell ⟨gb721, 2, none⟩ (.int .i64 ((rd_T33 l1 x40_2).f1.f0))).setCell ⟨gb721, 3, none⟩ (.int .i64 ((rd_T33 l1 x40_2).f1.f1))) = w57 at n0_ n1_ ⊢
               have BK721 := n0_
               have HB := n1_
               clear n0_ n1_
               replace BK721 := Aside0.mk (blk_drew BK721.out)
               replace HB := Aside0.mk (below_drew1 HB.out)
               have p722 : 0 ≤ ((ji31) : Int) := of_decide_eq_true (by first | (with_reducible assumption) | assumption)
               have q722 : (ji31) < (l2.length : Int) := of_decide_eq_true (by first | (with_reducible assumption) | assumption)
               obtain ⟨ad722, e722, hx722_0, hx722_1, hx722_2, hx722_3⟩ := at_T30 HR2.out (ji31) p722 q722
               have hw722_3 := hx722_3
               have hw722_2 := hx722_2
               have hw722_1 := hx722_1
               have hw722_0 := hx722_0
               cases e722
               replace hx722_0 := clTr HB.out hx722_0
               replace hx722_1 := clTr HB.out hx722_1
               replace hx722_2 := clTr HB.out hx722_2
               replace hx722_3 := clTr HB.out hx722_3
               replace p722 := eq_true p722
               replace q722 := eq_true q722
               refine start_ (n := 15) (S := fun w' => w'.cell? ⟨gb721, 0, none⟩ = some (.int .i64 ((rd_T33 l1 x40_2).f0.f0)) ∧ w'.cell? ⟨gb721, 1, none⟩ = some (.int .i64 ((rd_T33 l1 x40_2).f0.f1)) ∧ w'.cell? ⟨gb721, 2, none⟩ = some (.int .i64 ((rd_T33 l1 x40_2).f1.f0)) ∧ w'.cell? ⟨gb721, 3, none⟩ = some (.int .i64 ((rd_T33 l1 x40_2).f1.f1)) ∧ w'.cell? (ad722.add (((ji31)).toNat * 4)) = some (.int .i64 ((rd_T30 l2 (ji31)).f0.f0)) ∧ w'.cell? ⟨(ad722.add (((ji31)).toNat * 4)).block, (ad722.add (((ji31)).toNat * 4)).off + 1, none⟩ = some (.int .i64 ((rd_T30 l2 (ji31)).f0.f1)) ∧ w'.cell? ⟨(ad722.add (((ji31)).toNat * 4)).block, (ad722.add (((ji31)).toNat * 4)).off + 2, none⟩ = some (.int .i64 ((rd_T30 l2 (ji31)).f0.f2)) ∧ w'.cell? ⟨(ad722.add (((ji31)).toNat * 4)).block, (ad722.add (((ji31)).toNat * 4)).off + 3, none⟩ = some (.bool ((rd_T30 l2 (ji31)).f1))) (ds := []) #[false, false, false, false, false, false, false, false, false, false, false, false, false, false, false] (by kernel_rfl) rfl rfl ⟨(blk_cell BK721.out 0).trans rfl, (blk_cell BK721.out 1).trans rfl, (blk_cell BK721.out 2).trans rfl, (blk_cell BK721.out 3).trans rfl, (clTr HB.out hw722_0), (clTr HB.out hw722_1), (clTr HB.out hw722_2), (clTr HB.out hw722_3)⟩ (fun hHeld => ?_); refine with_tabW impl_isFree.tab14 impl_isFree.bits14 (fun HT_ HW_ => ?_)
               generalize w57.drew = w58 at BK721 HB hx722_0 hx722_1 hx722_2 hx722_3 hHeld ⊢
               refine pu_ HT_ 0 (some 46) #[true, false, false, false, false, false, false, false, false, false, false, false, false, false, false] ?_
               refine pu_ HT_ 2 (some 48) #[true, false, true, false, false, false, false, false, false, false, false, false, false, false, false] ?_
               refine pu_ HT_ 3 (some 49) #[true, false, true, true, false, false, false, false, false, false, false, false, false, false, false] ?_
               refine pu_ HT_ 4 (some 50) #[true, false, true, true, true, false, false, false, false, false, false, false, false, false, false] ?_
               refine pu_ HT_ 5 (some 51) #[true, false, true, true, true, true, false, false, false, false, false, false, false, false, false] ?_
               refine ta_ HT_ HW_ 1 (some 47) #[true, true, true, true, true, true, false, false, false, false, false, false, false, false, false] hHeld ?_ (hy := by rintro w' ⟨s0, s1, s2, s3, s4, s5, s6, s7⟩; go_simp; with_reducible rfl)
               refine ta_ HT_ HW_ 6 (some 52) #[true, true, true, true, true, true, true, false, false, false, false, false, false, false, false] hHeld ?_ (hy := by rintro w' ⟨s0, s1, s2, s3, s4, s5, s6, s7⟩; go_simp; with_reducible rfl)
               refine join_ (σ := Nat) 2 #[true, true, true, true, true, true, true, true, true, true, true, true, true, false, false] (fun s_ => [(53, .agg #[.int .i64 t723, .int .i64 t724, .int .i64 t725, .bool t726]), (54, .tuple #[.agg #[.int .i64 t727, .int .i64 t728, .int .i64 t729, .bool t730], .bool true]), (14, .pointer (some ⟨s_, 0, none⟩)), (45, .tuple #[.agg #[.int .i64 t727, .int .i64 t728, .int .i64 t729, .bool t730], .bool true]), (55, .agg #[.int .i64 t727, .int .i64 t728, .int .i64 t729, .bool t730]), (56, .bool true)]) (fun s_ w' => (w'.cell? ⟨gb721, 0, none⟩ = some (.int .i64 ((rd_T33 l1 x40_2).f0.f0)) ∧ w'.cell? ⟨gb721, 1, none⟩ = some (.int .i64 ((rd_T33 l1 x40_2).f0.f1)) ∧ w'.cell? ⟨gb721, 2, none⟩ = some (.int .i64 ((rd_T33 l1 x40_2).f1.f0)) ∧ w'.cell? ⟨gb721, 3, none⟩ = some (.int .i64 ((rd_T33 l1 x40_2).f1.f1)) ∧ w'.cell? (ad722.add (((ji31)).toNat * 4)) = some (.int .i64 ((rd_T30 l2 (ji31)).f0.f0)) ∧ w'.cell? ⟨(ad722.add (((ji31)).toNat * 4)).block, (ad722.add (((ji31)).toNat * 4)).off + 1, none⟩ = some (.int .i64 ((rd_T30 l2 (ji31)).f0.f1)) ∧ w'.cell? ⟨(ad722.add (((ji31)).toNat * 4)).block, (ad722.add (((ji31)).toNat * 4)).off + 2, none⟩ = some (.int .i64 ((rd_T30 l2 (ji31)).f0.f2)) ∧ w'.cell? ⟨(ad722.add (((ji31)).toNat * 4)).block, (ad722.add (((ji31)).toNat * 4)).off + 3, none⟩ = some (.bool ((rd_T30 l2 (ji31)).f1))) ∧ (w'.heap[gb721]? = some (.cells #[.int .i64 ((rd_T33 l1 x40_2).f0.f0), .int .i64 ((rd_T33 l1 x40_2).f0.f1), .int .i64 ((rd_T33 l1 x40_2).f1.f0), .int .i64 ((rd_T33 l1 x40_2).f1.f1)] 33 (0, 0))) ∧ (w'.heap[s_]? = some (.cells #[.int .i64 0, .int .i64 0, .int .i64 0, .bool false] 30 (0, 0))) ∧ (w.heap.size ≤ s_) ∧ (w.heap.size ≤ s_) ∧ (gb721 ≠ s_) ∧ (s_ ≠ gb721) ∧ (Below w.heap.size w w')) ?_ ?_
               rotate_left
               ·intro hCont
                refine two_ (i := 7) (j := 12) (Ni := some 53) (Nj := some 14) #[true, true, true, true, true, true, true, true, false, false, false, false, false, false, false] #[true, true, true, true, true, true, true, false, false, false, false, false, true, false, false] rfl rfl rfl rfl (two_of HT_.out (by kernel_rfl)) (by decide) (by decide) (fun K hK => ?_) (fun K hK => ?_)
                ·skip
                 refine goes_ Try.func112 (by kernel_rfl) rfl #[.agg #[.int .i64 ((rd_T30 l2 (ji31)).f0.f0), .int .i64 ((rd_T30 l2 (ji31)).f0.f1), .int .i64 ((rd_T30 l2 (ji31)).f0.f2), .bool ((rd_T30 l2 (ji31)).f1)]] (by rfl) rfl rfl (by (try simp only [List.map_toArray, List.map_cons, List.map_nil]); first | done | (simp only [hji31]; rfl) | rfl | (simp only [List.length_drop, List.length_take]; rfl)) ?_
                 with_reducible refine (impl_opposite.calls ((rd_T30 l2 (ji31)).f0.f0) ((rd_T30 l2 (ji31)).f0.f1) ((rd_T30 l2 (ji31)).f0.f2) ((rd_T30 l2 (ji31)).f1) t723 t724 t725 t726 _ A34.out).mono ?_
                 rintro e w59 ⟨rfl, hb⟩
                 refine ⟨_, rfl, ?_⟩
                 replace BK721 := bb_ BK721 hb
                 replace HB := bt_ HB hb
                 (try clear hb)
                 (try clear hb2)
                 (try clear hk)
                 (try clear hi)
                 refine hK.out _ _ ⟨(blk_cell BK721.out 0).trans rfl, (blk_cell BK721.out 1).trans rfl, (blk_cell BK721.out 2).trans rfl, (blk_cell BK721.out 3).trans rfl, (clTr HB.out hw722_0), (clTr HB.out hw722_1), (clTr HB.out hw722_2), (clTr HB.out hw722_3)⟩ (fun hHeld => ?_)
                 clear hK K
                 refine norm_ (a' := ?_) ?_ ?_
                 rotate_left
                 ·show Act.put _ (some 53) _ = _
                  simp only [Act.put, lstS, lstZ, lstC, i64_w, i32_w]
                  rfl
                 refine two_ (i := 8) (j := 12) (Ni := some 54) (Nj := some 14) #[true, true, true, true, true, true, true, true, true, false, false, false, false, false, false] #[true, true, true, true, true, true, true, true, false, false, false, false, true, false, false] rfl rfl rfl rfl (two_of HT_.out (by kernel_rfl)) (by decide) (by decide) (fun K hK => ?_) (fun K hK => ?_)
                 ·skip
                  refine goes_ Try.func40 (by kernel_rfl) rfl #[.int .i64 a0, .agg #[.int .i64 ((rd_T33 l1 x40_2).f0.f0), .int .i64 ((rd_T33 l1 x40_2).f0.f1), .int .i64 ((rd_T33 l1 x40_2).f1.f0), .int .i64 ((rd_T33 l1 x40_2).f1.f1)], .agg #[.int .i64 t723, .int .i64 t724, .int .i64 t725, .bool t726]] (by rfl) rfl rfl (by (try simp only [List.map_toArray, List.map_cons, List.map_nil]); first | done | rfl | (simp only [List.length_drop, List.length_take]; rfl)) ?_
                  with_reducible refine (impl_moveSide.calls k2 a0 ((rd_T33 l1 x40_2).f0.f0) ((rd_T33 l1 x40_2).f0.f1) ((rd_T33 l1 x40_2).f1.f0) ((rd_T33 l1 x40_2).f1.f1) t723 t724 t725 t726 t727 t728 t729 t730 true _ A35.out).mono ?_
                  rintro e w60 ⟨rfl, hb⟩
                  refine ⟨_, rfl, ?_⟩
                  replace BK721 := bb_ BK721 hb
                  replace HB := bt_ HB hb
                  (try clear hb)
                  (try clear hb2)
                  (try clear hk)
                  (try clear hi)
                  refine hK.out _ _ ⟨(blk_cell BK721.out 0).trans rfl, (blk_cell BK721.out 1).trans rfl, (blk_cell BK721.out 2).trans rfl, (blk_cell BK721.out 3).trans rfl, (clTr HB.out hw722_0), (clTr HB.out hw722_1), (clTr HB.out hw722_2), (clTr HB.out hw722_3)⟩ (fun hHeld => ?_)
                  clear hK K
                  refine norm_ (a' := ?_) ?_ ?_
                  rotate_left
                  ·show Act.put _ (some 54) _ = _
                   simp only [Act.put, lstS, lstZ, lstC, i64_w, i32_w]
                   rfl
                  refine pu_ HT_ 9 (some 45) #[true, true, true, true, true, true, true, true, true, true, false, false, false, false, false] ?_
                  refine pu_ HT_ 10 (some 55) #[true, true, true, true, true, true, true, true, true, true, true, false, false, false, false] ?_
                  refine pu_ HT_ 11 (some 56) #[true, true, true, true, true, true, true, true, true, true, true, true, false, false, false] ?_
                  refine one_ (i := 12) (N := some 14) #[true, true, true, true, true, true, true, true, true, true, true, true, true, false, false] rfl rfl (one_of HT_.out (by kernel_rfl)) (by decide) (fun K hK => ?_)
                  refine box_step ?hg (N := 14) ?hd (cs := #[.int .i64 0, .int .i64 0, .int .i64 0, .bool false]) (t := 30) ?hr ?_; (case hd => rfl); (case hg => rfl); (case hr => first | (go_simp; done) | (go_simp; rfl))
                  intro gb732 hg w61 hbox hb
                  have BK732 := Aside0.mk (hbox)
                  have GW732 := bs_ HB hg
                  have GE732 := bs_ HB hg
                  have NB721_732 := bm_ BK721 hg
                  have NB732_721 := bn_ BK721 hg
                  replace BK721 := bb_ BK721 hb
                  replace HB := bt_ HB hb
                  clear hb hbox hg
                  refine hK.out _ _ ⟨(blk_cell BK721.out 0).trans rfl, (blk_cell BK721.out 1).trans rfl, (blk_cell BK721.out 2).trans rfl, (blk_cell BK721.out 3).trans rfl, (clTr HB.out hw722_0), (clTr HB.out hw722_1), (clTr HB.out hw722_2), (clTr HB.out hw722_3)⟩ (fun hHeld => ?_)
                  clear hK K
                  refine norm_ (a' := ?_) ?_ ?_
                  rotate_left
                  ·show Act.put _ (some 14) _ = _
                   simp only [Act.put, lstS, lstZ, lstC, i64_w, i32_w]
                   rfl
                  exact norm_ (by simp only [putAll, Act.put, lstS, lstZ, lstC]) (hCont (gb732) _ ⟨hHeld, (bl_ BK721).out, (bl_ BK732).out, GW732.out, GE732.out, NB721_732.out, NB732_721.out, (bw_ HB).out⟩)
                 ·skip
                  refine box_step ?hg (N := 14) ?hd (cs := #[.int .i64 0, .int .i64 0, .int .i64 0, .bool false]) (t := 30) ?hr ?_; (case hd => rfl); (case hg => rfl); (case hr => first | (go_simp; done) | (go_simp; rfl))
                  intro gb732 hg w60 hbox hb
                  have BK732 := Aside0.mk (hbox)
                  have GW732 := bs_ HB hg
                  have GE732 := bs_ HB hg
                  have NB721_732 := bm_ BK721 hg
                  have NB732_721 := bn_ BK721 hg
                  replace BK721 := bb_ BK721 hb
                  replace HB := bt_ HB hb
                  clear hb hbox hg
                  refine hK.out _ _ ⟨(blk_cell BK721.out 0).trans rfl, (blk_cell BK721.out 1).trans rfl, (blk_cell BK721.out 2).trans rfl, (blk_cell BK721.out 3).trans rfl, (clTr HB.out hw722_0), (clTr HB.out hw722_1), (clTr HB.out hw722_2), (clTr HB.out hw722_3)⟩ (fun hHeld => ?_)
                  clear hK K
                  refine norm_ (a' := ?_) ?_ ?_
                  rotate_left
                  ·show Act.put _ (some 14) _ = _
                   simp only [Act.put, lstS, lstZ, lstC, i64_w, i32_w]
                   rfl
                  refine one_ (i := 8) (N := some 54) #[true, true, true, true, true, true, true, true, true, false, false, false, true, false, false] rfl rfl (one_of HT_.out (by kernel_rfl)) (by decide) (fun K hK => ?_)
                  refine goes_ Try.func40 (by kernel_rfl) rfl #[.int .i64 a0, .agg #[.int .i64 ((rd_T33 l1 x40_2).f0.f0), .int .i64 ((rd_T33 l1 x40_2).f0.f1), .int .i64 ((rd_T33 l1 x40_2).f1.f0), .int .i64 ((rd_T33 l1 x40_2).f1.f1)], .agg #[.int .i64 t723, .int .i64 t724, .int .i64 t725, .bool t726]] (by rfl) rfl rfl (by (try simp only [List.map_toArray, List.map_cons, List.map_nil]); first | done | rfl | (simp only [List.length_drop, List.length_take]; rfl)) ?_
                  with_reducible refine (impl_moveSide.calls k2 a0 ((rd_T33 l1 x40_2).f0.f0) ((rd_T33 l1 x40_2).f0.f1) ((rd_T33 l1 x40_2).f1.f0) ((rd_T33 l1 x40_2).f1.f1) t723 t724 t725 t726 t727 t728 t729 t730 true _ A35.out).mono ?_
                  rintro e w61 ⟨rfl, hb⟩
                  refine ⟨_, rfl, ?_⟩
                  replace BK721 := bb_ BK721 hb
                  replace BK732 := bb_ BK732 hb
                  replace HB := bt_ HB hb
                  (try clear hb)
                  (try clear hb2)
                  (try clear hk)
                  (try clear hi)
                  refine hK.out _ _ ⟨(blk_cell BK721.out 0).trans rfl, (blk_cell BK721.out 1).trans rfl, (blk_cell BK721.out 2).trans rfl, (blk_cell BK721.out 3).trans rfl, (clTr HB.out hw722_0), (clTr HB.out hw722_1), (clTr HB.out hw722_2), (clTr HB.out hw722_3)⟩ (fun hHeld => ?_)
                  clear hK K
                  refine norm_ (a' := ?_) ?_ ?_
                  rotate_left
                  ·show Act.put _ (some 54) _ = _
                   simp only [Act.put, lstS, lstZ, lstC, i64_w, i32_w]
                   rfl
                  refine pu_ HT_ 9 (some 45) #[true, true, true, true, true, true, true, true, true, true, false, false, true, false, false] ?_
                  refine pu_ HT_ 10 (some 55) #[true, true, true, true, true, true, true, true, true, true, true, false, true, false, false] ?_
                  refine pu_ HT_ 11 (some 56) #[true, true, true, true, true, true, true, true, true, true, true, true, true, false, false] ?_
                  exact norm_ (by simp only [putAll, Act.put, lstS, lstZ, lstC]) (hCont (gb732) _ ⟨hHeld, (bl_ BK721).out, (bl_ BK732).out, GW732.out, GE732.out, NB721_732.out, NB732_721.out, (bw_ HB).out⟩)
                ·skip
                 refine box_step ?hg (N := 14) ?hd (cs := #[.int .i64 0, .int .i64 0, .int .i64 0, .bool false]) (t := 30) ?hr ?_; (case hd => rfl); (case hg => rfl); (case hr => first | (go_simp; done) | (go_simp; rfl))
                 intro gb732 hg w59 hbox hb
                 have BK732 := Aside0.mk (hbox)
                 have GW732 := bs_ HB hg
                 have GE732 := bs_ HB hg
                 have NB721_732 := bm_ BK721 hg
                 have NB732_721 := bn_ BK721 hg
                 replace BK721 := bb_ BK721 hb
                 replace HB := bt_ HB hb
                 clear hb hbox hg
                 refine hK.out _ _ ⟨(blk_cell BK721.out 0).trans rfl, (blk_cell BK721.out 1).trans rfl, (blk_cell BK721.out 2).trans rfl, (blk_cell BK721.out 3).trans rfl, (clTr HB.out hw722_0), (clTr HB.out hw722_1), (clTr HB.out hw722_2), (clTr HB.out hw722_3)⟩ (fun hHeld => ?_)
                 clear hK K
                 refine norm_ (a' := ?_) ?_ ?_
                 rotate_left
                 ·show Act.put _ (some 14) _ = _
                  simp only [Act.put, lstS, lstZ, lstC, i64_w, i32_w]
                  rfl
                 refine one_ (i := 7) (N := some 53) #[true, true, true, true, true, true, true, true, false, false, false, false, true, false, false] rfl rfl (one_of HT_.out (by kernel_rfl)) (by decide) (fun K hK => ?_)
                 refine goes_ Try.func112 (by kernel_rfl) rfl #[.agg #[.int .i64 ((rd_T30 l2 (ji31)).f0.f0), .int .i64 ((rd_T30 l2 (ji31)).f0.f1), .int .i64 ((rd_T30 l2 (ji31)).f0.f2), .bool ((rd_T30 l2 (ji31)).f1)]] (by rfl) rfl rfl (by (try simp only [List.map_toArray, List.map_cons, List.map_nil]); first | done | (simp only [hji31]; rfl) | rfl | (simp only [List.length_drop, List.length_take]; rfl)) ?_
                 with_reducible refine (impl_opposite.calls ((rd_T30 l2 (ji31)).f0.f0) ((rd_T30 l2 (ji31)).f0.f1) ((rd_T30 l2 (ji31)).f0.f2) ((rd_T30 l2 (ji31)).f1) t723 t724 t725 t726 _ A34.out).mono ?_
                 rintro e w60 ⟨rfl, hb⟩
                 refine ⟨_, rfl, ?_⟩
                 replace BK721 := bb_ BK721 hb
                 replace BK732 := bb_ BK732 hb
                 replace HB := bt_ HB hb
                 (try clear hb)
                 (try clear hb2)
                 (try clear hk)
                 (try clear hi)
                 refine hK.out _ _ ⟨(blk_cell BK721.out 0).trans rfl, (blk_cell BK721.out 1).trans rfl, (blk_cell BK721.out 2).trans rfl, (blk_cell BK721.out 3).trans rfl, (clTr HB.out hw722_0), (clTr HB.out hw722_1), (clTr HB.out hw722_2), (clTr HB.out hw722_3)⟩ (fun hHeld => ?_)
                 clear hK K
                 refine norm_ (a' := ?_) ?_ ?_
                 rotate_left
                 ·show Act.put _ (some 53) _ = _
                  simp only [Act.put, lstS, lstZ, lstC, i64_w, i32_w]
                  rfl
                 refine one_ (i := 8) (N := some 54) #[true, true, true, true, true, true, true, true, true, false, false, false, true, false, false] rfl rfl (one_of HT_.out (by kernel_rfl)) (by decide) (fun K hK => ?_)
                 refine goes_ Try.func40 (by kernel_rfl) rfl #[.int .i64 a0, .agg #[.int .i64 ((rd_T33 l1 x40_2).f0.f0), .int .i64 ((rd_T33 l1 x40_2).f0.f1), .int .i64 ((rd_T33 l1 x40_2).f1.f0), .int .i64 ((rd_T33 l1 x40_2).f1.f1)], .agg #[.int .i64 t723, .int .i64 t724, .int .i64 t725, .bool t726]] (by rfl) rfl rfl (by (try simp only [List.map_toArray, List.map_cons, List.map_nil]); first | done | rfl | (simp only [List.length_drop, List.length_take]; rfl)) ?_
                 with_reducible refine (impl_moveSide.calls k2 a0 ((rd_T33 l1 x40_2).f0.f0) ((rd_T33 l1 x40_2).f0.f1) ((rd_T33 l1 x40_2).f1.f0) ((rd_T33 l1 x40_2).f1.f1) t723 t724 t725 t726 t727 t728 t729 t730 true _ A35.out).mono ?_
                 rintro e w61 ⟨rfl, hb⟩
                 refine ⟨_, rfl, ?_⟩
                 replace BK721 := bb_ BK721 hb
                 replace BK732 := bb_ BK732 hb
                 replace HB := bt_ HB hb
                 (try clear hb)
                 (try clear hb2)
                 (try clear hk)
                 (try clear hi)
                 refine hK.out _ _ ⟨(blk_cell BK721.out 0).trans rfl, (blk_cell BK721.out 1).trans rfl, (blk_cell BK721.out 2).trans rfl, (blk_cell BK721.out 3).trans rfl, (clTr HB.out hw722_0), (clTr HB.out hw722_1), (clTr HB.out hw722_2), (clTr HB.out hw722_3)⟩ (fun hHeld => ?_)
                 clear hK K
                 refine norm_ (a' := ?_) ?_ ?_
                 rotate_left
                 ·show Act.put _ (some 54) _ = _
                  simp only [Act.put, lstS, lstZ, lstC, i64_w, i32_w]
                  rfl
                 refine pu_ HT_ 9 (some 45) #[true, true, true, true, true, true, true, true, true, true, false, false, true, false, false] ?_
                 refine pu_ HT_ 10 (some 55) #[true, true, true, true, true, true, true, true, true, true, true, false, true, false, false] ?_
                 refine pu_ HT_ 11 (some 56) #[true, true, true, true, true, true, true, true, true, true, true, true, true, false, false] ?_
                 exact norm_ (by simp only [putAll, Act.put, lstS, lstZ, lstC]) (hCont (gb732) _ ⟨hHeld, (bl_ BK721).out, (bl_ BK732).out, GW732.out, GE732.out, NB721_732.out, NB732_721.out, (bw_ HB).out⟩)
               rintro gb732 w62 ⟨hS_, h0_, h1_, h2_, h3_, h4_, h5_, h6_⟩
               have n0_ : Aside0 (w62.heap[gb721]? = some (.cells #[.int .i64 ((rd_T33 l1 x40_2).f0.f0), .int .i64 ((rd_T33 l1 x40_2).f0.f1), .int .i64 ((rd_T33 l1 x40_2).f1.f0), .int .i64 ((rd_T33 l1 x40_2).f1.f1)] 33 (0, 0))) := ⟨h0_⟩
               have n1_ : Aside0 (w62.heap[gb732]? = some (.cells #[.int .i64 0, .int .i64 0, .int .i64 0, .bool false] 30 (0, 0))) := ⟨h1_⟩
               have n2_ : Aside0 (w.heap.size ≤ gb732) := ⟨h2_⟩
               have n3_ : Aside0 (w.heap.size ≤ gb732) := ⟨h3_⟩
               have n4_ : Aside0 (gb721 ≠ gb732) := ⟨h4_⟩
               have n5_ : Aside0 (gb732 ≠ gb721) := ⟨h5_⟩
               have n6_ : Aside0 (Below w.heap.size w w62) := ⟨h6_⟩
               clear BK721
               clear HB
               clear h0_ h1_ h2_ h3_ h4_ h5_ h6_
               have BK721 := n0_
               have BK732 := n1_
               have GW732 := n2_
               have GE732 := n3_
               have NB721_732 := n4_
               have NB732_721 := n5_
               have HB := n6_
               clear n0_ n1_ n2_ n3_ n4_ n5_ n6_
               have hHeld : w62.cell? ⟨gb721, 0, none⟩ = some (.int .i64 ((rd_T33 l1 x40_2).f0.f0)) ∧ w62.cell? ⟨gb721, 1, none⟩ = some (.int .i64 ((rd_T33 l1 x40_2).f0.f1)) ∧ w62.cell? ⟨gb721, 2, none⟩ = some (.int .i64 ((rd_T33 l1 x40_2).f1.f0)) ∧ w62.cell? ⟨gb721, 3, none⟩ = some (.int .i64 ((rd_T33 l1 x40_2).f1.f1)) ∧ w62.cell? (ad722.add (((ji31)).toNat * 4)) = some (.int .i64 ((rd_T30 l2 (ji31)).f0.f0)) ∧ w62.cell? ⟨(ad722.add (((ji31)).toNat * 4)).block, (ad722.add (((ji31)).toNat * 4)).off + 1, none⟩ = some (.int .i64 ((rd_T30 l2 (ji31)).f0.f1)) ∧ w62.cell? ⟨(ad722.add (((ji31)).toNat * 4)).block, (ad722.add (((ji31)).toNat * 4)).off + 2, none⟩ = some (.int .i64 ((rd_T30 l2 (ji31)).f0.f2)) ∧ w62.cell? ⟨(ad722.add (((ji31)).toNat * 4)).block, (ad722.add (((ji31)).toNat * 4)).off + 3, none⟩ = some (.bool ((rd_T30 l2 (ji31)).f1)) := hS_
               refine norm_ (a' := ?_) ?_ ?_
               rotate_left
               ·simp only [putAll, Act.put, lstS, lstZ, lstC]
                rfl
               refine one_ (i := 13) (N := none) #[true, true, true, true, true, true, true, true, true, true, true, true, true, true, false] rfl rfl (one_of HT_.out (by kernel_rfl)) (by decide) (fun K hK => ?_)
               have hs63 : w62.cell? ⟨gb732, 0, none⟩ = some (.int .i64 0) := (blk_cell BK732.out 0).trans rfl
               have hfs63 := blk_frozen BK732.out 0
               have hns63_0 := NB721_732.out
               have hms63_0 := NB732_721.out
               have hs64 : w62.cell? ⟨gb732, 1, none⟩ = some (.int .i64 0) := (blk_cell BK732.out 1).trans rfl
               have hfs64 := blk_frozen BK732.out 1
               have hns64_0 := NB721_732.out
               have hms64_0 := NB732_721.out
               have hs65 : w62.cell? ⟨gb732, 2, none⟩ = some (.int .i64 0) := (blk_cell BK732.out 2).trans rfl
               have hfs65 := blk_frozen BK732.out 2
               have hns65_0 := NB721_732.out
               have hms65_0 := NB732_721.out
               have hs66 : w62.cell? ⟨gb732, 3, none⟩ = some (.bool false) := (blk_cell BK732.out 3).trans rfl
               have hfs66 := blk_frozen BK732.out 3
               have hns66_0 := NB721_732.out
               have hms66_0 := NB732_721.out
               refine skip_ (w1 := ?_) (by rfl) rfl ?_ ?_
               rotate_left
               ·go_simp
                rfl
               refine hK.out _ _ ⟨((cell_far (p := ⟨gb732, _, none⟩) NB721_732.out _).trans (((cell_far (p := ⟨gb732, _, none⟩) NB721_732.out _).trans (((cell_far (p := ⟨gb732, _, none⟩) NB721_732.out _).trans (((cell_far (p := ⟨gb732, _, none⟩) NB721_732.out _).trans (hHeld.1)))))))), ((cell_far (p := ⟨gb732, _, none⟩) NB721_732.out _).trans (((cell_far (p := ⟨gb732, _, none⟩) NB721_732.out _).trans (((cell_far (p := ⟨gb732, _, none⟩) NB721_732.out _).trans (((cell_far (p := ⟨gb732, _, none⟩) NB721_732.out _).trans (hHeld.2.1)))))))), ((cell_far (p := ⟨gb732, _, none⟩) NB721_732.out _).trans (((cell_far (p := ⟨gb732, _, none⟩) NB721_732.out _).trans (((cell_far (p := ⟨gb732, _, none⟩) NB721_732.out _).trans (((cell_far (p := ⟨gb732, _, none⟩) NB721_732.out _).trans (hHeld.2.2.1)))))))), ((cell_far (p := ⟨gb732, _, none⟩) NB721_732.out _).trans (((cell_far (p := ⟨gb732, _, none⟩) NB721_732.out _).trans (((cell_far (p := ⟨gb732, _, none⟩) NB721_732.out _).trans (((cell_far (p := ⟨gb732, _, none⟩) NB721_732.out _).trans (hHeld.2.2.2.1)))))))), ((cell_far (p := ⟨gb732, _, none⟩) (by first | exact Nat.ne_of_lt (Nat.lt_of_lt_of_le (by have := World.block_lt_of_cell? _ _ hw722_0; first | rwa [add_block] at this | exact this) GW732.out) | (rw [add_block]; exact Nat.ne_of_lt (Nat.lt_of_lt_of_le (by have := World.block_lt_of_cell? _ _ hw722_0; first | rwa [add_block] at this | exact this) GW732.out)) | (show (Addr.add _ _).block ≠ _; rw [add_block]; exact Nat.ne_of_lt (Nat.lt_of_lt_of_le (by have := World.block_lt_of_cell? _ _ hw722_0; first | rwa [add_block] at this | exact this) GW732.out)) | (dsimp only; exact Nat.ne_of_lt (Nat.lt_of_lt_of_le (by have := World.block_lt_of_cell? _ _ hw722_0; first | rwa [add_block] at this | exact this) GW732.out))) _).trans (((cell_far (p := ⟨gb732, _, none⟩) (by first | exact Nat.ne_of_lt (Nat.lt_of_lt_of_le (by have := World.block_lt_of_cell? _ _ hw722_0; first | rwa [add_block] at this | exact this) GW732.out) | (rw [add_block]; exact Nat.ne_of_lt (Nat.lt_of_lt_of_le (by have := World.block_lt_of_cell? _ _ hw722_0; first | rwa [add_block] at this | exact this) GW732.out)) | (show (Addr.add _ _).block ≠ _; rw [add_block]; exact Nat.ne_of_lt (Nat.lt_of_lt_of_le (by have := World.block_lt_of_cell? _ _ hw722_0; first | rwa [add_block] at this | exact this) GW732.out)) | (dsimp only; exact Nat.ne_of_lt (Nat.lt_of_lt_of_le (by have := World.block_lt_of_cell? _ _ hw722_0; first | rwa [add_block] at this | exact this) GW732.out))) _).trans (((cell_far (p := ⟨gb732, _, none⟩) (by first | exact Nat.ne_of_lt (Nat.lt_of_lt_of_le (by have := World.block_lt_of_cell? _ _ hw722_0; first | rwa [add_block] at this | exact this) GW732.out) | (rw [add_block]; exact Nat.ne_of_lt (Nat.lt_of_lt_of_le (by have := World.block_lt_of_cell? _ _ hw722_0; first | rwa [add_block] at this | exact this) GW732.out)) | (show (Addr.add _ _).block ≠ _; rw [add_block]; exact Nat.ne_of_lt (Nat.lt_of_lt_of_le (by have := World.block_lt_of_cell? _ _ hw722_0; first | rwa [add_block] at this | exact this) GW732.out)) | (dsimp only; exact Nat.ne_of_lt (Nat.lt_of_lt_of_le (by have := World.block_lt_of_cell? _ _ hw722_0; first | rwa [add_block] at this | exact this) GW732.out))) _).trans (((cell_far (p := ⟨gb732, _, none⟩) (by first | exact Nat.ne_of_lt (Nat.lt_of_lt_of_le (by have := World.block_lt_of_cell? _ _ hw722_0; first | rwa [add_block] at this | exact this) GW732.out) | (rw [add_block]; exact Nat.ne_of_lt (Nat.lt_of_lt_of_le (by have := World.block_lt_of_cell? _ _ hw722_0; first | rwa [add_block] at this | exact this) GW732.out)) | (show (Addr.add _ _).block ≠ _; rw [add_block]; exact Nat.ne_of_lt (Nat.lt_of_lt_of_le (by have := World.block_lt_of_cell? _ _ hw722_0; first | rwa [add_block] at this | exact this) GW732.out)) | (dsimp only; exact Nat.ne_of_lt (Nat.lt_of_lt_of_le (by have := World.block_lt_of_cell? _ _ hw722_0; first | rwa [add_block] at this | exact this) GW732.out))) _).trans (hHeld.2.2.2.2.1)))))))), ((cell_far (p := ⟨gb732, _, none⟩) (by first | exact Nat.ne_of_lt (Nat.lt_of_lt_of_le (by have := World.block_lt_of_cell? _ _ hw722_1; first | rwa [add_block] at this | exact this) GW732.out) | (rw [add_block]; exact Nat.ne_of_lt (Nat.lt_of_lt_of_le (by have := World.block_lt_of_cell? _ _ hw722_1; first | rwa [add_block] at this | exact this) GW732.out)) | (show (Addr.add _ _).block ≠ _; rw [add_block]; exact Nat.ne_of_lt (Nat.lt_of_lt_of_le (by have := World.block_lt_of_cell? _ _ hw722_1; first | rwa [add_block] at this | exact this) GW732.out)) | (dsimp only; exact Nat.ne_of_lt (Nat.lt_of_lt_of_le (by have := World.block_lt_of_cell? _ _ hw722_1; first | rwa [add_block] at this | exact this) GW732.out))) _).trans (((cell_far (p := ⟨gb732, _, none⟩) (by first | exact Nat.ne_of_lt (Nat.lt_of_lt_of_le (by have := World.block_lt_of_cell? _ _ hw722_1; first | rwa [add_block] at this | exact this) GW732.out) | (rw [add_block]; exact Nat.ne_of_lt (Nat.lt_of_lt_of_le (by have := World.block_lt_of_cell? _ _ hw722_1; first | rwa [add_block] at this | exact this) GW732.out)) | (show (Addr.add _ _).block ≠ _; rw [add_block]; exact Nat.ne_of_lt (Nat.lt_of_lt_of_le (by have := World.block_lt_of_cell? _ _ hw722_1; first | rwa [add_block] at this | exact this) GW732.out)) | (dsimp only; exact Nat.ne_of_lt (Nat.lt_of_lt_of_le (by have := World.block_lt_of_cell? _ _ hw722_1; first | rwa [add_block] at this | exact this) GW732.out))) _).trans (((cell_far (p := ⟨gb732, _, none⟩) (by first | exact Nat.ne_of_lt (Nat.lt_of_lt_of_le (by have := World.block_lt_of_cell? _ _ hw722_1; first | rwa [add_block] at this | exact this) GW732.out) | (rw [add_block]; exact Nat.ne_of_lt (Nat.lt_of_lt_of_le (by have := World.block_lt_of_cell? _ _ hw722_1; first | rwa [add_block] at this | exact this) GW732.out)) | (show (Addr.add _ _).block ≠ _; rw [add_block]; exact Nat.ne_of_lt (Nat.lt_of_lt_of_le (by have := World.block_lt_of_cell? _ _ hw722_1; first | rwa [add_block] at this | exact this) GW732.out)) | (dsimp only; exact Nat.ne_of_lt (Nat.lt_of_lt_of_le (by have := World.block_lt_of_cell? _ _ hw722_1; first | rwa [add_block] at this | exact this) GW732.out))) _).trans (((cell_far (p := ⟨gb732, _, none⟩) (by first | exact Nat.ne_of_lt (Nat.lt_of_lt_of_le (by have := World.block_lt_of_cell? _ _ hw722_1; first | rwa [add_block] at this | exact this) GW732.out) | (rw [add_block]; exact Nat.ne_of_lt (Nat.lt_of_lt_of_le (by have := World.block_lt_of_cell? _ _ hw722_1; first | rwa [add_block] at this | exact this) GW732.out)) | (show (Addr.add _ _).block ≠ _; rw [add_block]; exact Nat.ne_of_lt (Nat.lt_of_lt_of_le (by have := World.block_lt_of_cell? _ _ hw722_1; first | rwa [add_block] at this | exact this) GW732.out)) | (dsimp only; exact Nat.ne_of_lt (Nat.lt_of_lt_of_le (by have := World.block_lt_of_cell? _ _ hw722_1; first | rwa [add_block] at this | exact this) GW732.out))) _).trans (hHeld.2.2.2.2.2.1)))))))), ((cell_far (p := ⟨gb732, _, none⟩) (by first | exact Nat.ne_of_lt (Nat.lt_of_lt_of_le (by have := World.block_lt_of_cell? _ _ hw722_2; first | rwa [add_block] at this | exact this) GW732.out) | (rw [add_block]; exact Nat.ne_of_lt (Nat.lt_of_lt_of_le (by have := World.block_lt_of_cell? _ _ hw722_2; first | rwa [add_block] at this | exact this) GW732.out)) | (show (Addr.add _ _).block ≠ _; rw [add_block]; exact Nat.ne_of_lt (Nat.lt_of_lt_of_le (by have := World.block_lt_of_cell? _ _ hw722_2; first | rwa [add_block] at this | exact this) GW732.out)) | (dsimp only; exact Nat.ne_of_lt (Nat.lt_of_lt_of_le (by have := World.block_lt_of_cell? _ _ hw722_2; first | rwa [add_block] at this | exact this) GW732.out))) _).trans (((cell_far (p := ⟨gb732, _, none⟩) (by first | exact Nat.ne_of_lt (Nat.lt_of_lt_of_le (by have := World.block_lt_of_cell? _ _ hw722_2; first | rwa [add_block] at this | exact this) GW732.out) | (rw [add_block]; exact Nat.ne_of_lt (Nat.lt_of_lt_of_le (by have := World.block_lt_of_cell? _ _ hw722_2; first | rwa [add_block] at this | exact this) GW732.out)) | (show (Addr.add _ _).block ≠ _; rw [add_block]; exact Nat.ne_of_lt (Nat.lt_of_lt_of_le (by have := World.block_lt_of_cell? _ _ hw722_2; first | rwa [add_block] at this | exact this) GW732.out)) | (dsimp only; exact Nat.ne_of_lt (Nat.lt_of_lt_of_le (by have := World.block_lt_of_cell? _ _ hw722_2; first | rwa [add_block] at this | exact this) GW732.out))) _).trans (((cell_far (p := ⟨gb732, _, none⟩) (by first | exact Nat.ne_of_lt (Nat.lt_of_lt_of_le (by have := World.block_lt_of_cell? _ _ hw722_2; first | rwa [add_block] at this | exact this) GW732.out) | (rw [add_block]; exact Nat.ne_of_lt (Nat.lt_of_lt_of_le (by have := World.block_lt_of_cell? _ _ hw722_2; first | rwa [add_block] at this | exact this) GW732.out)) | (show (Addr.add _ _).block ≠ _; rw [add_block]; exact Nat.ne_of_lt (Nat.lt_of_lt_of_le (by have := World.block_lt_of_cell? _ _ hw722_2; first | rwa [add_block] at this | exact this) GW732.out)) | (dsimp only; exact Nat.ne_of_lt (Nat.lt_of_lt_of_le (by have := World.block_lt_of_cell? _ _ hw722_2; first | rwa [add_block] at this | exact this) GW732.out))) _).trans (((cell_far (p := ⟨gb732, _, none⟩) (by first | exact Nat.ne_of_lt (Nat.lt_of_lt_of_le (by have := World.block_lt_of_cell? _ _ hw722_2; first | rwa [add_block] at this | exact this) GW732.out) | (rw [add_block]; exact Nat.ne_of_lt (Nat.lt_of_lt_of_le (by have := World.block_lt_of_cell? _ _ hw722_2; first | rwa [add_block] at this | exact this) GW732.out)) | (show (Addr.add _ _).block ≠ _; rw [add_block]; exact Nat.ne_of_lt (Nat.lt_of_lt_of_le (by have := World.block_lt_of_cell? _ _ hw722_2; first | rwa [add_block] at this | exact this) GW732.out)) | (dsimp only; exact Nat.ne_of_lt (Nat.lt_of_lt_of_le (by have := World.block_lt_of_cell? _ _ hw722_2; first | rwa [add_block] at this | exact this) GW732.out))) _).trans (hHeld.2.2.2.2.2.2.1)))))))), ((cell_far (p := ⟨gb732, _, none⟩) (by first | exact Nat.ne_of_lt (Nat.lt_of_lt_of_le (by have := World.block_lt_of_cell? _ _ hw722_3; first | rwa [add_block] at this | exact this) GW732.out) | (rw [add_block]; exact Nat.ne_of_lt (Nat.lt_of_lt_of_le (by have := World.block_lt_of_cell? _ _ hw722_3; first | rwa [add_block] at this | exact this) GW732.out)) | (show (Addr.add _ _).block ≠ _; rw [add_block]; exact Nat.ne_of_lt (Nat.lt_of_lt_of_le (by have := World.block_lt_of_cell? _ _ hw722_3; first | rwa [add_block] at this | exact this) GW732.out)) | (dsimp only; exact Nat.ne_of_lt (Nat.lt_of_lt_of_le (by have := World.block_lt_of_cell? _ _ hw722_3; first | rwa [add_block] at this | exact this) GW732.out))) _).trans (((cell_far (p := ⟨gb732, _, none⟩) (by first | exact Nat.ne_of_lt (Nat.lt_of_lt_of_le (by have := World.block_lt_of_cell? _ _ hw722_3; first | rwa [add_block] at this | exact this) GW732.out) | (rw [add_block]; exact Nat.ne_of_lt (Nat.lt_of_lt_of_le (by have := World.block_lt_of_cell? _ _ hw722_3; first | rwa [add_block] at this | exact this) GW732.out)) | (show (Addr.add _ _).block ≠ _; rw [add_block]; exact Nat.ne_of_lt (Nat.lt_of_lt_of_le (by have := World.block_lt_of_cell? _ _ hw722_3; first | rwa [add_block] at this | exact this) GW732.out)) | (dsimp only; exact Nat.ne_of_lt (Nat.lt_of_lt_of_le (by have := World.block_lt_of_cell? _ _ hw722_3; first | rwa [add_block] at this | exact this) GW732.out))) _).trans (((cell_far (p := ⟨gb732, _, none⟩) (by first | exact Nat.ne_of_lt (Nat.lt_of_lt_of_le (by have := World.block_lt_of_cell? _ _ hw722_3; first | rwa [add_block] at this | exact this) GW732.out) | (rw [add_block]; exact Nat.ne_of_lt (Nat.lt_of_lt_of_le (by have := World.block_lt_of_cell? _ _ hw722_3; first | rwa [add_block] at this | exact this) GW732.out)) | (show (Addr.add _ _).block ≠ _; rw [add_block]; exact Nat.ne_of_lt (Nat.lt_of_lt_of_le (by have := World.block_lt_of_cell? _ _ hw722_3; first | rwa [add_block] at this | exact this) GW732.out)) | (dsimp only; exact Nat.ne_of_lt (Nat.lt_of_lt_of_le (by have := World.block_lt_of_cell? _ _ hw722_3; first | rwa [add_block] at this | exact this) GW732.out))) _).trans (((cell_far (p := ⟨gb732, _, none⟩) (by first | exact Nat.ne_of_lt (Nat.lt_of_lt_of_le (by have := World.block_lt_of_cell? _ _ hw722_3; first | rwa [add_block] at this | exact this) GW732.out) | (rw [add_block]; exact Nat.ne_of_lt (Nat.lt_of_lt_of_le (by have := World.block_lt_of_cell? _ _ hw722_3; first | rwa [add_block] at this | exact this) GW732.out)) | (show (Addr.add _ _).block ≠ _; rw [add_block]; exact Nat.ne_of_lt (Nat.lt_of_lt_of_le (by have := World.block_lt_of_cell? _ _ hw722_3; first | rwa [add_block] at this | exact this) GW732.out)) | (dsimp only; exact Nat.ne_of_lt (Nat.lt_of_lt_of_le (by have := World.block_lt_of_cell? _ _ hw722_3; first | rwa [add_block] at this | exact this) GW732.out))) _).trans (hHeld.2.2.2.2.2.2.2))))))))⟩ (fun hHeld => ?_)
               clear hK K
               refine pu_ HT_ 14 (some 15) #[true, true, true, true, true, true, true, true, true, true, true, true, true, true, true] ?_
               refine done_ (done_of HT_.out (by kernel_rfl)) ?_
               try go_wp2
               have n0_ : Aside0 (((((w62.setCell ⟨gb732, 0, none⟩ (.int .i64 t727)).setCell ⟨gb732, 1, none⟩ (.int .i64 t728)).setCell ⟨gb732, 2, none⟩ (.int .i64 t729)).setCell ⟨gb732, 3, none⟩ (.bool t730)).heap[gb721]? = some (.cells #[.int .i64 ((rd_T33 l1 x40_2).f0.f0), .int .i64 ((rd_T33 l1 x40_2).f0.f1), .int .i64 ((rd_T33 l1 x40_2).f1.f0), .int .i64 ((rd_T33 l1 x40_2).f1.f1)] 33 (0, 0))) := ⟨by (with_reducible repeat first | apply blk_drewN | apply blk_drew | apply blk_alloc); refine blk_far ?_ NB721_732.out _; (with_reducible repeat first | apply blk_drewN | apply blk_drew | apply blk_alloc); refine blk_far ?_ NB721_732.out _; (with_reducible repeat first | apply blk_drewN | apply blk_drew | apply blk_alloc); refine blk_far ?_ NB721_732.out _; (with_reducible repeat first | apply blk_drewN | apply blk_drew | apply blk_alloc); refine blk_far ?_ NB721_732.out _; (with_reducible repeat first | apply blk_drewN | apply blk_drew | apply blk_alloc); exact BK721.out⟩
               have n1_ : Aside0 (((((w62.setCell ⟨gb732, 0, none⟩ (.int .i64 t727)).setCell ⟨gb732, 1, none⟩ (.int .i64 t728)).setCell ⟨gb732, 2, none⟩ (.int .i64 t729)).setCell ⟨gb732, 3, none⟩ (.bool t730)).heap[gb732]? = some (.cells #[.int .i64 t727, .int .i64 t728, .int .i64 t729, .bool t730] 30 (0, 0))) := ⟨by (with_reducible repeat first | apply blk_drewN | apply blk_drew | apply blk_alloc); refine blk_put (cs := #[.int .i64 t727, .int .i64 t728, .int .i64 t729, .bool false]) ?_ 3 _ rfl; (with_reducible repeat first | apply blk_drewN | apply blk_drew | apply blk_alloc); refine blk_put (cs := #[.int .i64 t727, .int .i64 t728, .int .i64 0, .bool false]) ?_ 2 _ rfl; (with_reducible repeat first | apply blk_drewN | apply blk_drew | apply blk_alloc); refine blk_put (cs := #[.int .i64 t727, .int .i64 0, .int .i64 0, .bool false]) ?_ 1 _ rfl; (with_reducible repeat first | apply blk_drewN | apply blk_drew | apply blk_alloc); refine blk_put (cs := #[.int .i64 0, .int .i64 0, .int .i64 0, .bool false]) ?_ 0 _ rfl; (with_reducible repeat first | apply blk_drewN | apply blk_drew | apply blk_alloc); exact BK732.out⟩
               have n2_ : Aside0 (Below w.heap.size w ((((w62.setCell ⟨gb732, 0, none⟩ (.int .i64 t727)).setCell ⟨gb732, 1, none⟩ (.int .i64 t728)).setCell ⟨gb732, 2, none⟩ (.int .i64 t729)).setCell ⟨gb732, 3, none⟩ (.bool t730))) := bw_ HB
               (try clear BK721)
               (try clear BK732)
               (try clear HB)
               generalize ((((w62.setCell ⟨gb732, 0, none⟩ (.int .i64 t727)).setCell ⟨gb732, 1, none⟩ (.int .i64 t728)).setCell ⟨gb732, 2, none⟩ (.int .i64 t729)).setCell ⟨gb732, 3, none⟩ (.bool t730)) = w67 at n0_ n1_ n2_ ⊢
               have BK721 := n0_
               have BK732 := n1_
               have HB := n2_
               clear n0_ n1_ n2_
               replace BK721 := Aside0.mk (blk_drew BK721.out)
               replace BK732 := Aside0.mk (blk_drew BK732.out)
               replace HB := Aside0.mk (below_drew1 HB.out)
               have p733 : 0 ≤ ((ji37) : Int) := of_decide_eq_true (by first | (with_reducible assumption) | assumption)
               have q733 : (ji37) < (l2.length : Int) := of_decide_eq_true (by first | (with_reducible assumption) | assumption)
               obtain ⟨ad733, e733, hx733_0, hx733_1, hx733_2, hx733_3⟩ := at_T30 HR2.out (ji37) p733 q733
               have hw733_3 := hx733_3
               have hw733_2 := hx733_2
               have hw733_1 := hx733_1
               have hw733_0 := hx733_0
               obtain rfl : ad722 = ad733 := (by injection e733)
               replace hx733_0 := clTr HB.out hx733_0
               replace hx733_1 := clTr HB.out hx733_1
               replace hx733_2 := clTr HB.out hx733_2
               replace hx733_3 := clTr HB.out hx733_3
               replace p733 := eq_true p733
               replace q733 := eq_true q733
               refine start_ (n := 9) (S := fun w' => w'.cell? ⟨gb732, 0, none⟩ = some (.int .i64 t727) ∧ w'.cell? ⟨gb732, 1, none⟩ = some (.int .i64 t728) ∧ w'.cell? ⟨gb732, 2, none⟩ = some (.int .i64 t729) ∧ w'.cell? ⟨gb732, 3, none⟩ = some (.bool t730) ∧ w'.cell? (ad722.add (((ji37)).toNat * 4)) = some (.int .i64 ((rd_T30 l2 (ji37)).f0.f0)) ∧ w'.cell? ⟨(ad722.add (((ji37)).toNat * 4)).block, (ad722.add (((ji37)).toNat * 4)).off + 1, none⟩ = some (.int .i64 ((rd_T30 l2 (ji37)).f0.f1)) ∧ w'.cell? ⟨(ad722.add (((ji37)).toNat * 4)).block, (ad722.add (((ji37)).toNat * 4)).off + 2, none⟩ = some (.int .i64 ((rd_T30 l2 (ji37)).f0.f2)) ∧ w'.cell? ⟨(ad722.add (((ji37)).toNat * 4)).block, (ad722.add (((ji37)).toNat * 4)).off + 3, none⟩ = some (.bool ((rd_T30 l2 (ji37)).f1))) (ds := []) #[false, false, false, false, false, false, false, false, false] (by kernel_rfl) rfl rfl ⟨(blk_cell BK732.out 0).trans rfl, (blk_cell BK732.out 1).trans rfl, (blk_cell BK732.out 2).trans rfl, (blk_cell BK732.out 3).trans rfl, (clTr HB.out hw733_0), (clTr HB.out hw733_1), (clTr HB.out hw733_2), (clTr HB.out hw733_3)⟩ (fun hHeld => ?_); refine with_tabW impl_isFree.tab17 impl_isFree.bits17 (fun HT_ HW_ => ?_)
               generalize w67.drew = w68 at BK721 BK732 HB hx733_0 hx733_1 hx733_2 hx733_3 hHeld ⊢
               refine pu_ HT_ 1 (some 62) #[false, true, false, false, false, false, false, false, false] ?_
               refine pu_ HT_ 2 (some 63) #[false, true, true, false, false, false, false, false, false] ?_
               refine pu_ HT_ 3 (some 64) #[false, true, true, true, false, false, false, false, false] ?_
               refine pu_ HT_ 4 (some 65) #[false, true, true, true, true, false, false, false, false] ?_
               refine pu_ HT_ 5 (some 66) #[false, true, true, true, true, true, false, false, false] ?_
               refine ta_ HT_ HW_ 0 (some 61) #[true, true, true, true, true, true, false, false, false] hHeld ?_ (hy := by rintro w' ⟨s0, s1, s2, s3, s4, s5, s6, s7⟩; go_simp; with_reducible rfl)
               refine ta_ HT_ HW_ 6 (some 67) #[true, true, true, true, true, true, true, false, false] hHeld ?_ (hy := by rintro w' ⟨s0, s1, s2, s3, s4, s5, s6, s7⟩; go_simp; with_reducible rfl)
               refine pu_ HT_ 7 (some 68) #[true, true, true, true, true, true, true, true, false] ?_
               refine pu_ HT_ 8 (some 60) #[true, true, true, true, true, true, true, true, true] ?_
               refine done_ (done_of HT_.out (by kernel_rfl)) ?_
               try go_wp2
               go_roundg k2
               case measure => have := HK1.out; have := HK2.out; omega
               case rel => exact ⟨(wrap64 (x40_2 + 1)), (by first | rfl | (simp; done) | (simp [*]; done) | (simp [wrap64]; done)), H', ⟨by have := HK1.out; have := HK2.out; omega⟩, bw_ HB⟩
             ·rw [if_neg c39] at H
              exact absurd H (by simp)
            ·rw [if_neg c38] at H
             exact absurd H (by simp)
           ·replace c36 := Bool.eq_false_iff.mpr c36
            subst c36
            have H1 : (some (false, 3)) = some (r1, r2) := by rw [if_neg (show ¬ (false = true) by decide)] at H; exact H
            clear H
            have H := H1
            clear H1
            simp only [Option.some.injEq, Prod.mk.injEq] at H
            obtain ⟨rfl, rfl⟩ := H
            have p720 : 0 ≤ (x40_2 : Int) := of_decide_eq_true (by first | (with_reducible assumption) | assumption)
            have q720 : x40_2 < (l1.length : Int) := of_decide_eq_true (by first | (with_reducible assumption) | assumption)
            obtain ⟨ad720, e720, hx720_0, hx720_1, hx720_2, hx720_3⟩ := at_T33 HR1.out x40_2 p720 q720
            cases e720
            replace hx720_0 := clTr HB.out hx720_0
            replace hx720_1 := clTr HB.out hx720_1
            replace hx720_2 := clTr HB.out hx720_2
            replace hx720_3 := clTr HB.out hx720_3
            replace p720 := eq_true p720
            replace q720 := eq_true q720
            try go_wp2_with (first | ((with_reducible refine gate_dst (N := 13) rfl ?_); refine bx_ 13 #[.int .i64 0, .int .i64 0, .int .i64 0, .int .i64 0] 33 ?_; intro gb721 hg w69 hbox hb; have BK721 := Aside0.mk (hbox); have GW721 := bs_ HB hg; have GE721 := bs_ HB hg; replace HB := bt_ HB hb; clear hb hbox hg; have hcz70_0 : w69.cell? ⟨gb721, 0, none⟩ = some (.int .i64 0) := (blk_cell BK721.out 0).trans rfl; have hcz70_1 : w69.cell? ⟨gb721, 1, none⟩ = some (.int .i64 0) := (blk_cell BK721.out 1).trans rfl; have hcz70_2 : w69.cell? ⟨gb721, 2, none⟩ = some (.int .i64 0) := (blk_cell BK721.out 2).trans rfl; have hcz70_3 : w69.cell? ⟨gb721, 3, none⟩ = some (.int .i64 0) := (blk_cell BK721.out 3).trans rfl; have hfz70_0 := blk_frozen BK721.out 0; have hfz70_1 := blk_frozen BK721.out 1; have hfz70_2 := blk_frozen BK721.out 2; have hfz70_3 := blk_frozen BK721.out 3))
            have n0_ : Aside0 (((((w69.setCell ⟨gb721, 0, none⟩ (.int .i64 ((rd_T33 l1 x40_2).f0.f0))).setCell ⟨gb721, 1, none⟩ (.int .i64 ((rd_T33 l1 x40_2).f0.f1))).setCell ⟨gb721, 2, none⟩ (.int .i64 ((rd_T33 l1 x40_2).f1.f0))).setCell ⟨gb721, 3, none⟩ (.int .i64 ((rd_T33 l1 x40_2).f1.f1))).heap[gb721]? = some (.cells #[.int .i64 ((rd_T33 l1 x40_2).f0.f0), .int .i64 ((rd_T33 l1 x40_2).f0.f1), .int .i64 ((rd_T33 l1 x40_2).f1.f0), .int .i64 ((rd_T33 l1 x40_2).f1.f1)] 33 (0, 0))) := ⟨by (with_reducible repeat first | apply blk_drewN | apply blk_drew | apply blk_alloc); refine blk_put (cs := #[.int .i64 ((rd_T33 l1 x40_2).f0.f0), .int .i64 ((rd_T33 l1 x40_2).f0.f1), .int .i64 ((rd_T33 l1 x40_2).f1.f0), .int .i64 0]) ?_ 3 _ rfl; (with_reducible repeat first | apply blk_drewN | apply blk_drew | apply blk_alloc); refine blk_put (cs := #[.int .i64 ((rd_T33 l1 x40_2).f0.f0), .int .i64 ((rd_T33 l1 x40_2).f0.f1), .int .i64 0, .int .i64 0]) ?_ 2 _ rfl; (with_reducible repeat first | apply blk_drewN | apply blk_drew | apply blk_alloc); refine blk_put (cs := #[.int .i64 ((rd_T33 l1 x40_2).f0.f0), .int .i64 0, .int .i64 0, .int .i64 0]) ?_ 1 _ rfl; (with_reducible repeat first | apply blk_drewN | apply blk_drew | apply blk_alloc); refine blk_put (cs := #[.int .i64 0, .int .i64 0, .int .i64 0, .int .i64 0]) ?_ 0 _ rfl; (with_reducible repeat first | apply blk_drewN | apply blk_drew | apply blk_alloc); exact BK721.out⟩
            have n1_ : Aside0 (Below w.heap.size w ((((w69.setCell ⟨gb721, 0, none⟩ (.int .i64 ((rd_T33 l1 x40_2).f0.f0))).setCell ⟨gb721, 1, none⟩ (.int .i64 ((rd_T33 l1 x40_2).f0.f1))).setCell ⟨gb721, 2, none⟩ (.int .i64 ((rd_T33 l1 x40_2).f1.f0))).setCell ⟨gb721, 3, none⟩ (.int .i64 ((rd_T33 l1 x40_2).f1.f1)))) := bw_ HB
            (try clear BK721)
            (try clear HB)
            generalize ((((w69.setCell ⟨gb721, 0, none⟩ (.int .i64 ((rd_T33 l1 x40_2).f0.f0))).setCell ⟨gb721, 1, none⟩ (.int .i64 ((rd_T33 l1 x40_2).f0.f1))).setCell ⟨gb721, 2, none⟩ (.int .i64 ((rd_T33 l1 x40_2).f1.f0))).setCell ⟨gb721, 3, none⟩ (.int .i64 ((rd_T33 l1 x40_2).f1.f1))) = w71 at n0_ n1_ ⊢
            have BK721 := n0_
            have HB := n1_
            clear n0_ n1_
            replace BK721 := Aside0.mk (blk_drew BK721.out)
            replace HB := Aside0.mk (below_drew1 HB.out)
            have p722 : 0 ≤ ((ji31) : Int) := of_decide_eq_true (by first | (with_reducible assumption) | assumption)
            have q722 : (ji31) < (l2.length : Int) := of_decide_eq_true (by first | (with_reducible assumption) | assumption)
            obtain ⟨ad722, e722, hx722_0, hx722_1, hx722_2, hx722_3⟩ := at_T30 HR2.out (ji31) p722 q722
            have hw722_3 := hx722_3
            have hw722_2 := hx722_2
            have hw722_1 := hx722_1
            have hw722_0 := hx722_0
            cases e722
            replace hx722_0 := clTr HB.out hx722_0
            replace hx722_1 := clTr HB.out hx722_1
            replace hx722_2 := clTr HB.out hx722_2
            replace hx722_3 := clTr HB.out hx722_3
            replace p722 := eq_true p722
            replace q722 := eq_true q722
            refine start_ (n := 15) (S := fun w' => w'.cell? ⟨gb721, 0, none⟩ = some (.int .i64 ((rd_T33 l1 x40_2).f0.f0)) ∧ w'.cell? ⟨gb721, 1, none⟩ = some (.int .i64 ((rd_T33 l1 x40_2).f0.f1)) ∧ w'.cell? ⟨gb721, 2, none⟩ = some (.int .i64 ((rd_T33 l1 x40_2).f1.f0)) ∧ w'.cell? ⟨gb721, 3, none⟩ = some (.int .i64 ((rd_T33 l1 x40_2).f1.f1)) ∧ w'.cell? (ad722.add (((ji31)).toNat * 4)) = some (.int .i64 ((rd_T30 l2 (ji31)).f0.f0)) ∧ w'.cell? ⟨(ad722.add (((ji31)).toNat * 4)).block, (ad722.add (((ji31)).toNat * 4)).off + 1, none⟩ = some (.int .i64 ((rd_T30 l2 (ji31)).f0.f1)) ∧ w'.cell? ⟨(ad722.add (((ji31)).toNat * 4)).block, (ad722.add (((ji31)).toNat * 4)).off + 2, none⟩ = some (.int .i64 ((rd_T30 l2 (ji31)).f0.f2)) ∧ w'.cell? ⟨(ad722.add (((ji31)).toNat * 4)).block, (ad722.add (((ji31)).toNat * 4)).off + 3, none⟩ = some (.bool ((rd_T30 l2 (ji31)).f1))) (ds := []) #[false, false, false, false, false, false, false, false, false, false, false, false, false, false, false] (by kernel_rfl) rfl rfl ⟨(blk_cell BK721.out 0).trans rfl, (blk_cell BK721.out 1).trans rfl, (blk_cell BK721.out 2).trans rfl, (blk_cell BK721.out 3).trans rfl, (clTr HB.out hw722_0), (clTr HB.out hw722_1), (clTr HB.out hw722_2), (clTr HB.out hw722_3)⟩ (fun hHeld => ?_); refine with_tabW impl_isFree.tab14 impl_isFree.bits14 (fun HT_ HW_ => ?_)
            generalize w71.drew = w72 at BK721 HB hx722_0 hx722_1 hx722_2 hx722_3 hHeld ⊢
            refine pu_ HT_ 0 (some 46) #[true, false, false, false, false, false, false, false, false, false, false, false, false, false, false] ?_
            refine pu_ HT_ 2 (some 48) #[true, false, true, false, false, false, false, false, false, false, false, false, false, false, false] ?_
            refine pu_ HT_ 3 (some 49) #[true, false, true, true, false, false, false, false, false, false, false, false, false, false, false] ?_
            refine pu_ HT_ 4 (some 50) #[true, false, true, true, true, false, false, false, false, false, false, false, false, false, false] ?_
            refine pu_ HT_ 5 (some 51) #[true, false, true, true, true, true, false, false, false, false, false, false, false, false, false] ?_
            refine ta_ HT_ HW_ 1 (some 47) #[true, true, true, true, true, true, false, false, false, false, false, false, false, false, false] hHeld ?_ (hy := by rintro w' ⟨s0, s1, s2, s3, s4, s5, s6, s7⟩; go_simp; with_reducible rfl)
            refine ta_ HT_ HW_ 6 (some 52) #[true, true, true, true, true, true, true, false, false, false, false, false, false, false, false] hHeld ?_ (hy := by rintro w' ⟨s0, s1, s2, s3, s4, s5, s6, s7⟩; go_simp; with_reducible rfl)
            refine join_ (σ := Nat) 2 #[true, true, true, true, true, true, true, true, true, true, true, true, true, false, false] (fun s_ => [(53, .agg #[.int .i64 t723, .int .i64 t724, .int .i64 t725, .bool t726]), (54, .tuple #[.agg #[.int .i64 t727, .int .i64 t728, .int .i64 t729, .bool t730], .bool false]), (14, .pointer (some ⟨s_, 0, none⟩)), (45, .tuple #[.agg #[.int .i64 t727, .int .i64 t728, .int .i64 t729, .bool t730], .bool false]), (55, .agg #[.int .i64 t727, .int .i64 t728, .int .i64 t729, .bool t730]), (56, .bool false)]) (fun s_ w' => (w'.cell? ⟨gb721, 0, none⟩ = some (.int .i64 ((rd_T33 l1 x40_2).f0.f0)) ∧ w'.cell? ⟨gb721, 1, none⟩ = some (.int .i64 ((rd_T33 l1 x40_2).f0.f1)) ∧ w'.cell? ⟨gb721, 2, none⟩ = some (.int .i64 ((rd_T33 l1 x40_2).f1.f0)) ∧ w'.cell? ⟨gb721, 3, none⟩ = some (.int .i64 ((rd_T33 l1 x40_2).f1.f1)) ∧ w'.cell? (ad722.add (((ji31)).toNat * 4)) = some (.int .i64 ((rd_T30 l2 (ji31)).f0.f0)) ∧ w'.cell? ⟨(ad722.add (((ji31)).toNat * 4)).block, (ad722.add (((ji31)).toNat * 4)).off + 1, none⟩ = some (.int .i64 ((rd_T30 l2 (ji31)).f0.f1)) ∧ w'.cell? ⟨(ad722.add (((ji31)).toNat * 4)).block, (ad722.add (((ji31)).toNat * 4)).off + 2, none⟩ = some (.int .i64 ((rd_T30 l2 (ji31)).f0.f2)) ∧ w'.cell? ⟨(ad722.add (((ji31)).toNat * 4)).block, (ad722.add (((ji31)).toNat * 4)).off + 3, none⟩ = some (.bool ((rd_T30 l2 (ji31)).f1))) ∧ (w'.heap[gb721]? = some (.cells #[.int .i64 ((rd_T33 l1 x40_2).f0.f0), .int .i64 ((rd_T33 l1 x40_2).f0.f1), .int .i64 ((rd_T33 l1 x40_2).f1.f0), .int .i64 ((rd_T33 l1 x40_2).f1.f1)] 33 (0, 0))) ∧ (w'.heap[s_]? = some (.cells #[.int .i64 0, .int .i64 0, .int .i64 0, .bool false] 30 (0, 0))) ∧ (w.heap.size ≤ s_) ∧ (w.heap.size ≤ s_) ∧ (gb721 ≠ s_) ∧ (s_ ≠ gb721) ∧ (Below w.heap.size w w')) ?_ ?_
            rotate_left
            ·intro hCont
             refine two_ (i := 7) (j := 12) (Ni := some 53) (Nj := some 14) #[true, true, true, true, true, true, true, true, false, false, false, false, false, false, false] #[true, true, true, true, true, true, true, false, false, false, false, false, true, false, false] rfl rfl rfl rfl (two_of HT_.out (by kernel_rfl)) (by decide) (by decide) (fun K hK => ?_) (fun K hK => ?_)
             ·skip
              refine goes_ Try.func112 (by kernel_rfl) rfl #[.agg #[.int .i64 ((rd_T30 l2 (ji31)).f0.f0), .int .i64 ((rd_T30 l2 (ji31)).f0.f1), .int .i64 ((rd_T30 l2 (ji31)).f0.f2), .bool ((rd_T30 l2 (ji31)).f1)]] (by rfl) rfl rfl (by (try simp only [List.map_toArray, List.map_cons, List.map_nil]); first | done | (simp only [hji31]; rfl) | rfl | (simp only [List.length_drop, List.length_take]; rfl)) ?_
              with_reducible refine (impl_opposite.calls ((rd_T30 l2 (ji31)).f0.f0) ((rd_T30 l2 (ji31)).f0.f1) ((rd_T30 l2 (ji31)).f0.f2) ((rd_T30 l2 (ji31)).f1) t723 t724 t725 t726 _ A34.out).mono ?_
              rintro e w73 ⟨rfl, hb⟩
              refine ⟨_, rfl, ?_⟩
              replace BK721 := bb_ BK721 hb
              replace HB := bt_ HB hb
              (try clear hb)
              (try clear hb2)
              (try clear hk)
              (try clear hi)
              refine hK.out _ _ ⟨(blk_cell BK721.out 0).trans rfl, (blk_cell BK721.out 1).trans rfl, (blk_cell BK721.out 2).trans rfl, (blk_cell BK721.out 3).trans rfl, (clTr HB.out hw722_0), (clTr HB.out hw722_1), (clTr HB.out hw722_2), (clTr HB.out hw722_3)⟩ (fun hHeld => ?_)
              clear hK K
              refine norm_ (a' := ?_) ?_ ?_
              rotate_left
              ·show Act.put _ (some 53) _ = _
               simp only [Act.put, lstS, lstZ, lstC, i64_w, i32_w]
               rfl
              refine two_ (i := 8) (j := 12) (Ni := some 54) (Nj := some 14) #[true, true, true, true, true, true, true, true, true, false, false, false, false, false, false] #[true, true, true, true, true, true, true, true, false, false, false, false, true, false, false] rfl rfl rfl rfl (two_of HT_.out (by kernel_rfl)) (by decide) (by decide) (fun K hK => ?_) (fun K hK => ?_)
              ·skip
               refine goes_ Try.func40 (by kernel_rfl) rfl #[.int .i64 a0, .agg #[.int .i64 ((rd_T33 l1 x40_2).f0.f0), .int .i64 ((rd_T33 l1 x40_2).f0.f1), .int .i64 ((rd_T33 l1 x40_2).f1.f0), .int .i64 ((rd_T33 l1 x40_2).f1.f1)], .agg #[.int .i64 t723, .int .i64 t724, .int .i64 t725, .bool t726]] (by rfl) rfl rfl (by (try simp only [List.map_toArray, List.map_cons, List.map_nil]); first | done | rfl | (simp only [List.length_drop, List.length_take]; rfl)) ?_
               with_reducible refine (impl_moveSide.calls k2 a0 ((rd_T33 l1 x40_2).f0.f0) ((rd_T33 l1 x40_2).f0.f1) ((rd_T33 l1 x40_2).f1.f0) ((rd_T33 l1 x40_2).f1.f1) t723 t724 t725 t726 t727 t728 t729 t730 false _ A35.out).mono ?_
               rintro e w74 ⟨rfl, hb⟩
               refine ⟨_, rfl, ?_⟩
               replace BK721 := bb_ BK721 hb
               replace HB := bt_ HB hb
               (try clear hb)
               (try clear hb2)
               (try clear hk)
               (try clear hi)
               refine hK.out _ _ ⟨(blk_cell BK721.out 0).trans rfl, (blk_cell BK721.out 1).trans rfl, (blk_cell BK721.out 2).trans rfl, (blk_cell BK721.out 3).trans rfl, (clTr HB.out hw722_0), (clTr HB.out hw722_1), (clTr HB.out hw722_2), (clTr HB.out hw722_3)⟩ (fun hHeld => ?_)
               clear hK K
               refine norm_ (a' := ?_) ?_ ?_
               rotate_left
               ·show Act.put _ (some 54) _ = _
                simp only [Act.put, lstS, lstZ, lstC, i64_w, i32_w]
                rfl
               refine pu_ HT_ 9 (some 45) #[true, true, true, true, true, true, true, true, true, true, false, false, false, false, false] ?_
               refine pu_ HT_ 10 (some 55) #[true, true, true, true, true, true, true, true, true, true, true, false, false, false, false] ?_
               refine pu_ HT_ 11 (some 56) #[true, true, true, true, true, true, true, true, true, true, true, true, false, false, false] ?_
               refine one_ (i := 12) (N := some 14) #[true, true, true, true, true, true, true, true, true, true, true, true, true, false, false] rfl rfl (one_of HT_.out (by kernel_rfl)) (by decide) (fun K hK => ?_)
               refine box_step ?hg (N := 14) ?hd (cs := #[.int .i64 0, .int .i64 0, .int .i64 0, .bool false]) (t := 30) ?hr ?_; (case hd => rfl); (case hg => rfl); (case hr => first | (go_simp; done) | (go_simp; rfl))
               intro gb732 hg w75 hbox hb
               have BK732 := Aside0.mk (hbox)
               have GW732 := bs_ HB hg
               have GE732 := bs_ HB hg
               have NB721_732 := bm_ BK721 hg
               have NB732_721 := bn_ BK721 hg
               replace BK721 := bb_ BK721 hb
               replace HB := bt_ HB hb
               clear hb hbox hg
               refine hK.out _ _ ⟨(blk_cell BK721.out 0).trans rfl, (blk_cell BK721.out 1).trans rfl, (blk_cell BK721.out 2).trans rfl, (blk_cell BK721.out 3).trans rfl, (clTr HB.out hw722_0), (clTr HB.out hw722_1), (clTr HB.out hw722_2), (clTr HB.out hw722_3)⟩ (fun hHeld => ?_)
               clear hK K
               refine norm_ (a' := ?_) ?_ ?_
               rotate_left
               ·show Act.put _ (some 14) _ = _
                simp only [Act.put, lstS, lstZ, lstC, i64_w, i32_w]
                rfl
               exact norm_ (by simp only [putAll, Act.put, lstS, lstZ, lstC]) (hCont (gb732) _ ⟨hHeld, (bl_ BK721).out, (bl_ BK732).out, GW732.out, GE732.out, NB721_732.out, NB732_721.out, (bw_ HB).out⟩)
              ·skip
               refine box_step ?hg (N := 14) ?hd (cs := #[.int .i64 0, .int .i64 0, .int .i64 0, .bool false]) (t := 30) ?hr ?_; (case hd => rfl); (case hg => rfl); (case hr => first | (go_simp; done) | (go_simp; rfl))
               intro gb732 hg w74 hbox hb
               have BK732 := Aside0.mk (hbox)
               have GW732 := bs_ HB hg
               have GE732 := bs_ HB hg
               have NB721_732 := bm_ BK721 hg
               have NB732_721 := bn_ BK721 hg
               replace BK721 := bb_ BK721 hb
               replace HB := bt_ HB hb
               clear hb hbox hg
               refine hK.out _ _ ⟨(blk_cell BK721.out 0).trans rfl, (blk_cell BK721.out 1).trans rfl, (blk_cell BK721.out 2).trans rfl, (blk_cell BK721.out 3).trans rfl, (clTr HB.out hw722_0), (clTr HB.out hw722_1), (clTr HB.out hw722_2), (clTr HB.out hw722_3)⟩ (fun hHeld => ?_)
               clear hK K
               refine norm_ (a' := ?_) ?_ ?_
               rotate_left
               ·show Act.put _ (some 14) _ = _
                simp only [Act.put, lstS, lstZ, lstC, i64_w, i32_w]
                rfl
               refine one_ (i := 8) (N := some 54) #[true, true, true, true, true, true, true, true, true, false, false, false, true, false, false] rfl rfl (one_of HT_.out (by kernel_rfl)) (by decide) (fun K hK => ?_)
               refine goes_ Try.func40 (by kernel_rfl) rfl #[.int .i64 a0, .agg #[.int .i64 ((rd_T33 l1 x40_2).f0.f0), .int .i64 ((rd_T33 l1 x40_2).f0.f1), .int .i64 ((rd_T33 l1 x40_2).f1.f0), .int .i64 ((rd_T33 l1 x40_2).f1.f1)], .agg #[.int .i64 t723, .int .i64 t724, .int .i64 t725, .bool t726]] (by rfl) rfl rfl (by (try simp only [List.map_toArray, List.map_cons, List.map_nil]); first | done | rfl | (simp only [List.length_drop, List.length_take]; rfl)) ?_
               with_reducible refine (impl_moveSide.calls k2 a0 ((rd_T33 l1 x40_2).f0.f0) ((rd_T33 l1 x40_2).f0.f1) ((rd_T33 l1 x40_2).f1.f0) ((rd_T33 l1 x40_2).f1.f1) t723 t724 t725 t726 t727 t728 t729 t730 false _ A35.out).mono ?_
               rintro e w75 ⟨rfl, hb⟩
               refine ⟨_, rfl, ?_⟩
               replace BK721 := bb_ BK721 hb
               replace BK732 := bb_ BK732 hb
               replace HB := bt_ HB hb
               (try clear hb)
               (try clear hb2)
               (try clear hk)
               (try clear hi)
               refine hK.out _ _ ⟨(blk_cell BK721.out 0).trans rfl, (blk_cell BK721.out 1).trans rfl, (blk_cell BK721.out 2).trans rfl, (blk_cell BK721.out 3).trans rfl, (clTr HB.out hw722_0), (clTr HB.out hw722_1), (clTr HB.out hw722_2), (clTr HB.out hw722_3)⟩ (fun hHeld => ?_)
               clear hK K
               refine norm_ (a' := ?_) ?_ ?_
               rotate_left
               ·show Act.put _ (some 54) _ = _
                simp only [Act.put, lstS, lstZ, lstC, i64_w, i32_w]
                rfl
               refine pu_ HT_ 9 (some 45) #[true, true, true, true, true, true, true, true, true, true, false, false, true, false, false] ?_
               refine pu_ HT_ 10 (some 55) #[true, true, true, true, true, true, true, true, true, true, true, false, true, false, false] ?_
               refine pu_ HT_ 11 (some 56) #[true, true, true, true, true, true, true, true, true, true, true, true, true, false, false] ?_
               exact norm_ (by simp only [putAll, Act.put, lstS, lstZ, lstC]) (hCont (gb732) _ ⟨hHeld, (bl_ BK721).out, (bl_ BK732).out, GW732.out, GE732.out, NB721_732.out, NB732_721.out, (bw_ HB).out⟩)
             ·skip
              refine box_step ?hg (N := 14) ?hd (cs := #[.int .i64 0, .int .i64 0, .int .i64 0, .bool false]) (t := 30) ?hr ?_; (case hd => rfl); (case hg => rfl); (case hr => first | (go_simp; done) | (go_simp; rfl))
              intro gb732 hg w73 hbox hb
              have BK732 := Aside0.mk (hbox)
              have GW732 := bs_ HB hg
              have GE732 := bs_ HB hg
              have NB721_732 := bm_ BK721 hg
              have NB732_721 := bn_ BK721 hg
              replace BK721 := bb_ BK721 hb
              replace HB := bt_ HB hb
              clear hb hbox hg
              refine hK.out _ _ ⟨(blk_cell BK721.out 0).trans rfl, (blk_cell BK721.out 1).trans rfl, (blk_cell BK721.out 2).trans rfl, (blk_cell BK721.out 3).trans rfl, (clTr HB.out hw722_0), (clTr HB.out hw722_1), (clTr HB.out hw722_2), (clTr HB.out hw722_3)⟩ (fun hHeld => ?_)
              clear hK K
              refine norm_ (a' := ?_) ?_ ?_
              rotate_left
              ·show Act.put _ (some 14) _ = _
               simp only [Act.put, lstS, lstZ, lstC, i64_w, i32_w]
               rfl
              refine one_ (i := 7) (N := some 53) #[true, true, true, true, true, true, true, true, false, false, false, false, true, false, false] rfl rfl (one_of HT_.out (by kernel_rfl)) (by decide) (fun K hK => ?_)
              refine goes_ Try.func112 (by kernel_rfl) rfl #[.agg #[.int .i64 ((rd_T30 l2 (ji31)).f0.f0), .int .i64 ((rd_T30 l2 (ji31)).f0.f1), .int .i64 ((rd_T30 l2 (ji31)).f0.f2), .bool ((rd_T30 l2 (ji31)).f1)]] (by rfl) rfl rfl (by (try simp only [List.map_toArray, List.map_cons, List.map_nil]); first | done | (simp only [hji31]; rfl) | rfl | (simp only [List.length_drop, List.length_take]; rfl)) ?_
              with_reducible refine (impl_opposite.calls ((rd_T30 l2 (ji31)).f0.f0) ((rd_T30 l2 (ji31)).f0.f1) ((rd_T30 l2 (ji31)).f0.f2) ((rd_T30 l2 (ji31)).f1) t723 t724 t725 t726 _ A34.out).mono ?_
              rintro e w74 ⟨rfl, hb⟩
              refine ⟨_, rfl, ?_⟩
              replace BK721 := bb_ BK721 hb
              replace BK732 := bb_ BK732 hb
              replace HB := bt_ HB hb
              (try clear hb)
              (try clear hb2)
              (try clear hk)
              (try clear hi)
              refine hK.out _ _ ⟨(blk_cell BK721.out 0).trans rfl, (blk_cell BK721.out 1).trans rfl, (blk_cell BK721.out 2).trans rfl, (blk_cell BK721.out 3).trans rfl, (clTr HB.out hw722_0), (clTr HB.out hw722_1), (clTr HB.out hw722_2), (clTr HB.out hw722_3)⟩ (fun hHeld => ?_)
              clear hK K
              refine norm_ (a' := ?_) ?_ ?_
              rotate_left
              ·show Act.put _ (some 53) _ = _
               simp only [Act.put, lstS, lstZ, lstC, i64_w, i32_w]
               rfl
              refine one_ (i := 8) (N := some 54) #[true, true, true, true, true, true, true, true, true, false, false, false, true, false, false] rfl rfl (one_of HT_.out (by kernel_rfl)) (by decide) (fun K hK => ?_)
              refine goes_ Try.func40 (by kernel_rfl) rfl #[.int .i64 a0, .agg #[.int .i64 ((rd_T33 l1 x40_2).f0.f0), .int .i64 ((rd_T33 l1 x40_2).f0.f1), .int .i64 ((rd_T33 l1 x40_2).f1.f0), .int .i64 ((rd_T33 l1 x40_2).f1.f1)], .agg #[.int .i64 t723, .int .i64 t724, .int .i64 t725, .bool t726]] (by rfl) rfl rfl (by (try simp only [List.map_toArray, List.map_cons, List.map_nil]); first | done | rfl | (simp only [List.length_drop, List.length_take]; rfl)) ?_
              with_reducible refine (impl_moveSide.calls k2 a0 ((rd_T33 l1 x40_2).f0.f0) ((rd_T33 l1 x40_2).f0.f1) ((rd_T33 l1 x40_2).f1.f0) ((rd_T33 l1 x40_2).f1.f1) t723 t724 t725 t726 t727 t728 t729 t730 false _ A35.out).mono ?_
              rintro e w75 ⟨rfl, hb⟩
              refine ⟨_, rfl, ?_⟩
              replace BK721 := bb_ BK721 hb
              replace BK732 := bb_ BK732 hb
              replace HB := bt_ HB hb
              (try clear hb)
              (try clear hb2)
              (try clear hk)
              (try clear hi)
              refine hK.out _ _ ⟨(blk_cell BK721.out 0).trans rfl, (blk_cell BK721.out 1).trans rfl, (blk_cell BK721.out 2).trans rfl, (blk_cell BK721.out 3).trans rfl, (clTr HB.out hw722_0), (clTr HB.out hw722_1), (clTr HB.out hw722_2), (clTr HB.out hw722_3)⟩ (fun hHeld => ?_)
              clear hK K
              refine norm_ (a' := ?_) ?_ ?_
              rotate_left
              ·show Act.put _ (some 54) _ = _
               simp only [Act.put, lstS, lstZ, lstC, i64_w, i32_w]
               rfl
              refine pu_ HT_ 9 (some 45) #[true, true, true, true, true, true, true, true, true, true, false, false, true, false, false] ?_
              refine pu_ HT_ 10 (some 55) #[true, true, true, true, true, true, true, true, true, true, true, false, true, false, false] ?_
              refine pu_ HT_ 11 (some 56) #[true, true, true, true, true, true, true, true, true, true, true, true, true, false, false] ?_
              exact norm_ (by simp only [putAll, Act.put, lstS, lstZ, lstC]) (hCont (gb732) _ ⟨hHeld, (bl_ BK721).out, (bl_ BK732).out, GW732.out, GE732.out, NB721_732.out, NB732_721.out, (bw_ HB).out⟩)
            rintro gb732 w76 ⟨hS_, h0_, h1_, h2_, h3_, h4_, h5_, h6_⟩
            have n0_ : Aside0 (w76.heap[gb721]? = some (.cells #[.int .i64 ((rd_T33 l1 x40_2).f0.f0), .int .i64 ((rd_T33 l1 x40_2).f0.f1), .int .i64 ((rd_T33 l1 x40_2).f1.f0), .int .i64 ((rd_T33 l1 x40_2).f1.f1)] 33 (0, 0))) := ⟨h0_⟩
            have n1_ : Aside0 (w76.heap[gb732]? = some (.cells #[.int .i64 0, .int .i64 0, .int .i64 0, .bool false] 30 (0, 0))) := ⟨h1_⟩
            have n2_ : Aside0 (w.heap.size ≤ gb732) := ⟨h2_⟩
            have n3_ : Aside0 (w.heap.size ≤ gb732) := ⟨h3_⟩
            have n4_ : Aside0 (gb721 ≠ gb732) := ⟨h4_⟩
            have n5_ : Aside0 (gb732 ≠ gb721) := ⟨h5_⟩
            have n6_ : Aside0 (Below w.heap.size w w76) := ⟨h6_⟩
            clear BK721
            clear HB
            clear h0_ h1_ h2_ h3_ h4_ h5_ h6_
            have BK721 := n0_
            have BK732 := n1_
            have GW732 := n2_
            have GE732 := n3_
            have NB721_732 := n4_
            have NB732_721 := n5_
            have HB := n6_
            clear n0_ n1_ n2_ n3_ n4_ n5_ n6_
            have hHeld : w76.cell? ⟨gb721, 0, none⟩ = some (.int .i64 ((rd_T33 l1 x40_2).f0.f0)) ∧ w76.cell? ⟨gb721, 1, none⟩ = some (.int .i64 ((rd_T33 l1 x40_2).f0.f1)) ∧ w76.cell? ⟨gb721, 2, none⟩ = some (.int .i64 ((rd_T33 l1 x40_2).f1.f0)) ∧ w76.cell? ⟨gb721, 3, none⟩ = some (.int .i64 ((rd_T33 l1 x40_2).f1.f1)) ∧ w76.cell? (ad722.add (((ji31)).toNat * 4)) = some (.int .i64 ((rd_T30 l2 (ji31)).f0.f0)) ∧ w76.cell? ⟨(ad722.add (((ji31)).toNat * 4)).block, (ad722.add (((ji31)).toNat * 4)).off + 1, none⟩ = some (.int .i64 ((rd_T30 l2 (ji31)).f0.f1)) ∧ w76.cell? ⟨(ad722.add (((ji31)).toNat * 4)).block, (ad722.add (((ji31)).toNat * 4)).off + 2, none⟩ = some (.int .i64 ((rd_T30 l2 (ji31)).f0.f2)) ∧ w76.cell? ⟨(ad722.add (((ji31)).toNat * 4)).block, (ad722.add (((ji31)).toNat * 4)).off + 3, none⟩ = some (.bool ((rd_T30 l2 (ji31)).f1)) := hS_
            refine norm_ (a' := ?_) ?_ ?_
            rotate_left
            ·simp only [putAll, Act.put, lstS, lstZ, lstC]
             rfl
            refine one_ (i := 13) (N := none) #[true, true, true, true, true, true, true, true, true, true, true, true, true, true, false] rfl rfl (one_of HT_.out (by kernel_rfl)) (by decide) (fun K hK => ?_)
            have hs77 : w76.cell? ⟨gb732, 0, none⟩ = some (.int .i64 0) := (blk_cell BK732.out 0).trans rfl
            have hfs77 := blk_frozen BK732.out 0
            have hns77_0 := NB721_732.out
            have hms77_0 := NB732_721.out
            have hs78 : w76.cell? ⟨gb732, 1, none⟩ = some (.int .i64 0) := (blk_cell BK732.out 1).trans rfl
            have hfs78 := blk_frozen BK732.out 1
            have hns78_0 := NB721_732.out
            have hms78_0 := NB732_721.out
            have hs79 : w76.cell? ⟨gb732, 2, none⟩ = some (.int .i64 0) := (blk_cell BK732.out 2).trans rfl
            have hfs79 := blk_frozen BK732.out 2
            have hns79_0 := NB721_732.out
            have hms79_0 := NB732_721.out
            have hs80 : w76.cell? ⟨gb732, 3, none⟩ = some (.bool false) := (blk_cell BK732.out 3).trans rfl
            have hfs80 := blk_frozen BK732.out 3
            have hns80_0 := NB721_732.out
            have hms80_0 := NB732_721.out
            refine skip_ (w1 := ?_) (by rfl) rfl ?_ ?_
            rotate_left
            ·go_simp
             rfl
            refine hK.out _ _ ⟨((cell_far (p := ⟨gb732, _, none⟩) NB721_732.out _).trans (((cell_far (p := ⟨gb732, _, none⟩) NB721_732.out _).trans (((cell_far (p := ⟨gb732, _, none⟩) NB721_732.out _).trans (((cell_far (p := ⟨gb732, _, none⟩) NB721_732.out _).trans (hHeld.1)))))))), ((cell_far (p := ⟨gb732, _, none⟩) NB721_732.out _).trans (((cell_far (p := ⟨gb732, _, none⟩) NB721_732.out _).trans (((cell_far (p := ⟨gb732, _, none⟩) NB721_732.out _).trans (((cell_far (p := ⟨gb732, _, none⟩) NB721_732.out _).trans (hHeld.2.1)))))))), ((cell_far (p := ⟨gb732, _, none⟩) NB721_732.out _).trans (((cell_far (p := ⟨gb732, _, none⟩) NB721_732.out _).trans (((cell_far (p := ⟨gb732, _, none⟩) NB721_732.out _).trans (((cell_far (p := ⟨gb732, _, none⟩) NB721_732.out _).trans (hHeld.2.2.1)))))))), ((cell_far (p := ⟨gb732, _, none⟩) NB721_732.out _).trans (((cell_far (p := ⟨gb732, _, none⟩) NB721_732.out _).trans (((cell_far (p := ⟨gb732, _, none⟩) NB721_732.out _).trans (((cell_far (p := ⟨gb732, _, none⟩) NB721_732.out _).trans (hHeld.2.2.2.1)))))))), ((cell_far (p := ⟨gb732, _, none⟩) (by first | exact Nat.ne_of_lt (Nat.lt_of_lt_of_le (by have := World.block_lt_of_cell? _ _ hw722_0; first | rwa [add_block] at this | exact this) GW732.out) | (rw [add_block]; exact Nat.ne_of_lt (Nat.lt_of_lt_of_le (by have := World.block_lt_of_cell? _ _ hw722_0; first | rwa [add_block] at this | exact this) GW732.out)) | (show (Addr.add _ _).block ≠ _; rw [add_block]; exact Nat.ne_of_lt (Nat.lt_of_lt_of_le (by have := World.block_lt_of_cell? _ _ hw722_0; first | rwa [add_block] at this | exact this) GW732.out)) | (dsimp only; exact Nat.ne_of_lt (Nat.lt_of_lt_of_le (by have := World.block_lt_of_cell? _ _ hw722_0; first | rwa [add_block] at this | exact this) GW732.out))) _).trans (((cell_far (p := ⟨gb732, _, none⟩) (by first | exact Nat.ne_of_lt (Nat.lt_of_lt_of_le (by have := World.block_lt_of_cell? _ _ hw722_0; first | rwa [add_block] at this | exact this) GW732.out) | (rw [add_block]; exact Nat.ne_of_lt (Nat.lt_of_lt_of_le (by have := World.block_lt_of_cell? _ _ hw722_0; first | rwa [add_block] at this | exact this) GW732.out)) | (show (Addr.add _ _).block ≠ _; rw [add_block]; exact Nat.ne_of_lt (Nat.lt_of_lt_of_le (by have := World.block_lt_of_cell? _ _ hw722_0; first | rwa [add_block] at this | exact this) GW732.out)) | (dsimp only; exact Nat.ne_of_lt (Nat.lt_of_lt_of_le (by have := World.block_lt_of_cell? _ _ hw722_0; first | rwa [add_block] at this | exact this) GW732.out))) _).trans (((cell_far (p := ⟨gb732, _, none⟩) (by first | exact Nat.ne_of_lt (Nat.lt_of_lt_of_le (by have := World.block_lt_of_cell? _ _ hw722_0; first | rwa [add_block] at this | exact this) GW732.out) | (rw [add_block]; exact Nat.ne_of_lt (Nat.lt_of_lt_of_le (by have := World.block_lt_of_cell? _ _ hw722_0; first | rwa [add_block] at this | exact this) GW732.out)) | (show (Addr.add _ _).block ≠ _; rw [add_block]; exact Nat.ne_of_lt (Nat.lt_of_lt_of_le (by have := World.block_lt_of_cell? _ _ hw722_0; first | rwa [add_block] at this | exact this) GW732.out)) | (dsimp only; exact Nat.ne_of_lt (Nat.lt_of_lt_of_le (by have := World.block_lt_of_cell? _ _ hw722_0; first | rwa [add_block] at this | exact this) GW732.out))) _).trans (((cell_far (p := ⟨gb732, _, none⟩) (by first | exact Nat.ne_of_lt (Nat.lt_of_lt_of_le (by have := World.block_lt_of_cell? _ _ hw722_0; first | rwa [add_block] at this | exact this) GW732.out) | (rw [add_block]; exact Nat.ne_of_lt (Nat.lt_of_lt_of_le (by have := World.block_lt_of_cell? _ _ hw722_0; first | rwa [add_block] at this | exact this) GW732.out)) | (show (Addr.add _ _).block ≠ _; rw [add_block]; exact Nat.ne_of_lt (Nat.lt_of_lt_of_le (by have := World.block_lt_of_cell? _ _ hw722_0; first | rwa [add_block] at this | exact this) GW732.out)) | (dsimp only; exact Nat.ne_of_lt (Nat.lt_of_lt_of_le (by have := World.block_lt_of_cell? _ _ hw722_0; first | rwa [add_block] at this | exact this) GW732.out))) _).trans (hHeld.2.2.2.2.1)))))))), ((cell_far (p := ⟨gb732, _, none⟩) (by first | exact Nat.ne_of_lt (Nat.lt_of_lt_of_le (by have := World.block_lt_of_cell? _ _ hw722_1; first | rwa [add_block] at this | exact this) GW732.out) | (rw [add_block]; exact Nat.ne_of_lt (Nat.lt_of_lt_of_le (by have := World.block_lt_of_cell? _ _ hw722_1; first | rwa [add_block] at this | exact this) GW732.out)) | (show (Addr.add _ _).block ≠ _; rw [add_block]; exact Nat.ne_of_lt (Nat.lt_of_lt_of_le (by have := World.block_lt_of_cell? _ _ hw722_1; first | rwa [add_block] at this | exact this) GW732.out)) | (dsimp only; exact Nat.ne_of_lt (Nat.lt_of_lt_of_le (by have := World.block_lt_of_cell? _ _ hw722_1; first | rwa [add_block] at this | exact this) GW732.out))) _).trans (((cell_far (p := ⟨gb732, _, none⟩) (by first | exact Nat.ne_of_lt (Nat.lt_of_lt_of_le (by have := World.block_lt_of_cell? _ _ hw722_1; first | rwa [add_block] at this | exact this) GW732.out) | (rw [add_block]; exact Nat.ne_of_lt (Nat.lt_of_lt_of_le (by have := World.block_lt_of_cell? _ _ hw722_1; first | rwa [add_block] at this | exact this) GW732.out)) | (show (Addr.add _ _).block ≠ _; rw [add_block]; exact Nat.ne_of_lt (Nat.lt_of_lt_of_le (by have := World.block_lt_of_cell? _ _ hw722_1; first | rwa [add_block] at this | exact this) GW732.out)) | (dsimp only; exact Nat.ne_of_lt (Nat.lt_of_lt_of_le (by have := World.block_lt_of_cell? _ _ hw722_1; first | rwa [add_block] at this | exact this) GW732.out))) _).trans (((cell_far (p := ⟨gb732, _, none⟩) (by first | exact Nat.ne_of_lt (Nat.lt_of_lt_of_le (by have := World.block_lt_of_cell? _ _ hw722_1; first | rwa [add_block] at this | exact this) GW732.out) | (rw [add_block]; exact Nat.ne_of_lt (Nat.lt_of_lt_of_le (by have := World.block_lt_of_cell? _ _ hw722_1; first | rwa [add_block] at this | exact this) GW732.out)) | (show (Addr.add _ _).block ≠ _; rw [add_block]; exact Nat.ne_of_lt (Nat.lt_of_lt_of_le (by have := World.block_lt_of_cell? _ _ hw722_1; first | rwa [add_block] at this | exact this) GW732.out)) | (dsimp only; exact Nat.ne_of_lt (Nat.lt_of_lt_of_le (by have := World.block_lt_of_cell? _ _ hw722_1; first | rwa [add_block] at this | exact this) GW732.out))) _).trans (((cell_far (p := ⟨gb732, _, none⟩) (by first | exact Nat.ne_of_lt (Nat.lt_of_lt_of_le (by have := World.block_lt_of_cell? _ _ hw722_1; first | rwa [add_block] at this | exact this) GW732.out) | (rw [add_block]; exact Nat.ne_of_lt (Nat.lt_of_lt_of_le (by have := World.block_lt_of_cell? _ _ hw722_1; first | rwa [add_block] at this | exact this) GW732.out)) | (show (Addr.add _ _).block ≠ _; rw [add_block]; exact Nat.ne_of_lt (Nat.lt_of_lt_of_le (by have := World.block_lt_of_cell? _ _ hw722_1; first | rwa [add_block] at this | exact this) GW732.out)) | (dsimp only; exact Nat.ne_of_lt (Nat.lt_of_lt_of_le (by have := World.block_lt_of_cell? _ _ hw722_1; first | rwa [add_block] at this | exact this) GW732.out))) _).trans (hHeld.2.2.2.2.2.1)))))))), ((cell_far (p := ⟨gb732, _, none⟩) (by first | exact Nat.ne_of_lt (Nat.lt_of_lt_of_le (by have := World.block_lt_of_cell? _ _ hw722_2; first | rwa [add_block] at this | exact this) GW732.out) | (rw [add_block]; exact Nat.ne_of_lt (Nat.lt_of_lt_of_le (by have := World.block_lt_of_cell? _ _ hw722_2; first | rwa [add_block] at this | exact this) GW732.out)) | (show (Addr.add _ _).block ≠ _; rw [add_block]; exact Nat.ne_of_lt (Nat.lt_of_lt_of_le (by have := World.block_lt_of_cell? _ _ hw722_2; first | rwa [add_block] at this | exact this) GW732.out)) | (dsimp only; exact Nat.ne_of_lt (Nat.lt_of_lt_of_le (by have := World.block_lt_of_cell? _ _ hw722_2; first | rwa [add_block] at this | exact this) GW732.out))) _).trans (((cell_far (p := ⟨gb732, _, none⟩) (by first | exact Nat.ne_of_lt (Nat.lt_of_lt_of_le (by have := World.block_lt_of_cell? _ _ hw722_2; first | rwa [add_block] at this | exact this) GW732.out) | (rw [add_block]; exact Nat.ne_of_lt (Nat.lt_of_lt_of_le (by have := World.block_lt_of_cell? _ _ hw722_2; first | rwa [add_block] at this | exact this) GW732.out)) | (show (Addr.add _ _).block ≠ _; rw [add_block]; exact Nat.ne_of_lt (Nat.lt_of_lt_of_le (by have := World.block_lt_of_cell? _ _ hw722_2; first | rwa [add_block] at this | exact this) GW732.out)) | (dsimp only; exact Nat.ne_of_lt (Nat.lt_of_lt_of_le (by have := World.block_lt_of_cell? _ _ hw722_2; first | rwa [add_block] at this | exact this) GW732.out))) _).trans (((cell_far (p := ⟨gb732, _, none⟩) (by first | exact Nat.ne_of_lt (Nat.lt_of_lt_of_le (by have := World.block_lt_of_cell? _ _ hw722_2; first | rwa [add_block] at this | exact this) GW732.out) | (rw [add_block]; exact Nat.ne_of_lt (Nat.lt_of_lt_of_le (by have := World.block_lt_of_cell? _ _ hw722_2; first | rwa [add_block] at this | exact this) GW732.out)) | (show (Addr.add _ _).block ≠ _; rw [add_block]; exact Nat.ne_of_lt (Nat.lt_of_lt_of_le (by have := World.block_lt_of_cell? _ _ hw722_2; first | rwa [add_block] at this | exact this) GW732.out)) | (dsimp only; exact Nat.ne_of_lt (Nat.lt_of_lt_of_le (by have := World.block_lt_of_cell? _ _ hw722_2; first | rwa [add_block] at this | exact this) GW732.out))) _).trans (((cell_far (p := ⟨gb732, _, none⟩) (by first | exact Nat.ne_of_lt (Nat.lt_of_lt_of_le (by have := World.block_lt_of_cell? _ _ hw722_2; first | rwa [add_block] at this | exact this) GW732.out) | (rw [add_block]; exact Nat.ne_of_lt (Nat.lt_of_lt_of_le (by have := World.block_lt_of_cell? _ _ hw722_2; first | rwa [add_block] at this | exact this) GW732.out)) | (show (Addr.add _ _).block ≠ _; rw [add_block]; exact Nat.ne_of_lt (Nat.lt_of_lt_of_le (by have := World.block_lt_of_cell? _ _ hw722_2; first | rwa [add_block] at this | exact this) GW732.out)) | (dsimp only; exact Nat.ne_of_lt (Nat.lt_of_lt_of_le (by have := World.block_lt_of_cell? _ _ hw722_2; first | rwa [add_block] at this | exact this) GW732.out))) _).trans (hHeld.2.2.2.2.2.2.1)))))))), ((cell_far (p := ⟨gb732, _, none⟩) (by first | exact Nat.ne_of_lt (Nat.lt_of_lt_of_le (by have := World.block_lt_of_cell? _ _ hw722_3; first | rwa [add_block] at this | exact this) GW732.out) | (rw [add_block]; exact Nat.ne_of_lt (Nat.lt_of_lt_of_le (by have := World.block_lt_of_cell? _ _ hw722_3; first | rwa [add_block] at this | exact this) GW732.out)) | (show (Addr.add _ _).block ≠ _; rw [add_block]; exact Nat.ne_of_lt (Nat.lt_of_lt_of_le (by have := World.block_lt_of_cell? _ _ hw722_3; first | rwa [add_block] at this | exact this) GW732.out)) | (dsimp only; exact Nat.ne_of_lt (Nat.lt_of_lt_of_le (by have := World.block_lt_of_cell? _ _ hw722_3; first | rwa [add_block] at this | exact this) GW732.out))) _).trans (((cell_far (p := ⟨gb732, _, none⟩) (by first | exact Nat.ne_of_lt (Nat.lt_of_lt_of_le (by have := World.block_lt_of_cell? _ _ hw722_3; first | rwa [add_block] at this | exact this) GW732.out) | (rw [add_block]; exact Nat.ne_of_lt (Nat.lt_of_lt_of_le (by have := World.block_lt_of_cell? _ _ hw722_3; first | rwa [add_block] at this | exact this) GW732.out)) | (show (Addr.add _ _).block ≠ _; rw [add_block]; exact Nat.ne_of_lt (Nat.lt_of_lt_of_le (by have := World.block_lt_of_cell? _ _ hw722_3; first | rwa [add_block] at this | exact this) GW732.out)) | (dsimp only; exact Nat.ne_of_lt (Nat.lt_of_lt_of_le (by have := World.block_lt_of_cell? _ _ hw722_3; first | rwa [add_block] at this | exact this) GW732.out))) _).trans (((cell_far (p := ⟨gb732, _, none⟩) (by first | exact Nat.ne_of_lt (Nat.lt_of_lt_of_le (by have := World.block_lt_of_cell? _ _ hw722_3; first | rwa [add_block] at this | exact this) GW732.out) | (rw [add_block]; exact Nat.ne_of_lt (Nat.lt_of_lt_of_le (by have := World.block_lt_of_cell? _ _ hw722_3; first | rwa [add_block] at this | exact this) GW732.out)) | (show (Addr.add _ _).block ≠ _; rw [add_block]; exact Nat.ne_of_lt (Nat.lt_of_lt_of_le (by have := World.block_lt_of_cell? _ _ hw722_3; first | rwa [add_block] at this | exact this) GW732.out)) | (dsimp only; exact Nat.ne_of_lt (Nat.lt_of_lt_of_le (by have := World.block_lt_of_cell? _ _ hw722_3; first | rwa [add_block] at this | exact this) GW732.out))) _).trans (((cell_far (p := ⟨gb732, _, none⟩) (by first | exact Nat.ne_of_lt (Nat.lt_of_lt_of_le (by have := World.block_lt_of_cell? _ _ hw722_3; first | rwa [add_block] at this | exact this) GW732.out) | (rw [add_block]; exact Nat.ne_of_lt (Nat.lt_of_lt_of_le (by have := World.block_lt_of_cell? _ _ hw722_3; first | rwa [add_block] at this | exact this) GW732.out)) | (show (Addr.add _ _).block ≠ _; rw [add_block]; exact Nat.ne_of_lt (Nat.lt_of_lt_of_le (by have := World.block_lt_of_cell? _ _ hw722_3; first | rwa [add_block] at this | exact this) GW732.out)) | (dsimp only; exact Nat.ne_of_lt (Nat.lt_of_lt_of_le (by have := World.block_lt_of_cell? _ _ hw722_3; first | rwa [add_block] at this | exact this) GW732.out))) _).trans (hHeld.2.2.2.2.2.2.2))))))))⟩ (fun hHeld => ?_)
            clear hK K
            refine pu_ HT_ 14 (some 15) #[true, true, true, true, true, true, true, true, true, true, true, true, true, true, true] ?_
            refine done_ (done_of HT_.out (by kernel_rfl)) ?_
            try go_wp2
            go_ret2
            exact ⟨by first | rfl | (simp [errW_none, errW_some] <;> rfl) | (simp only [← hji31]; first | rfl | (simp [errW_none, errW_some] <;> rfl)) | (simp [*, errW_none, errW_some] <;> rfl), by repeat (first | (with_reducible first | exact HB.out | apply below_alloc | apply pw_below_drewN | apply below_drew1 | refine below_set ?_ GE721.out | refine below_set ?_ GE732.out) | exact HB.out)⟩
          ·rw [if_neg c33] at H
           exact absurd H (by simp)
         ·rw [if_neg c32] at H
          exact absurd H (by simp)
        ·rw [if_neg c30] at H
         exact absurd H (by simp)
       ·rw [if_neg c29] at H
        exact absurd H (by simp)
      ·rw [if_neg c28] at H
       have c28b0 : decide (x40_2 < (l1.length : Int)) = false := decide_eq_false c28
       clear c28
       simp only [Option.some.injEq, Prod.mk.injEq] at H
       obtain ⟨rfl, rfl⟩ := H
       go_wp2
       go_ret2
       exact ⟨by first | rfl | (simp [errW_none, errW_some] <;> rfl) | (simp [*, errW_none, errW_some] <;> rfl), by repeat (first | (with_reducible first | exact HB.out | apply below_alloc | apply pw_below_drewN | apply below_drew1) | exact HB.out)⟩
end Go.Proofs.Ytojpcbbmbnmchaa.QC
