-- Written by a program of this session out of Lean's own print of the loaded program; Lean checks it.
import Derived.Test.YtojpcbbmbnmchaaQCx4
import Derived.Test.YtojpcbbmbnmchaaQCx22
namespace Go.Proofs.Ytojpcbbmbnmchaa.QC
open Go.RowKit Go.Proofs.YtojpcbbmbnmchaaW.PrintWords Go.Proofs.YtojpcbbmbnmchaaW.PrintLast Go.Proofs.YtojpcbbmbnmchaaW.PrintMore
attribute [local go_sem] isSome_setCell max2_int min2_int max_two min_two max_three min_three max_four min_four   -- for this text's walks alone
set_option linter.unusedVariables false
set_option linter.unusedSimpArgs false

/-! ### spec_l04Times: function 48 -/
mutual
def spec_l04Times.l0 : Nat → Int → Int → Int → Int → Int → Int → Int → Int → Int → Int → Int → Int → Int → Option (Int × Int × Int × Int × Bool)
 | 0, _, _, _, _, _, _, _, _, _, _, _, _, _ => none
 | k + 1, x7, x202000, x202001, x202002, x202003, x203000, x203001, x203002, x203003, x205000, x205001, x205002, x205003 => if x7 < 2 then (spec_l04Times.l1 k x7 0 x202000 x202001 x202002 x202003 x203000 x203001 x203002 x203003 x205000 x205001 x205002 x205003) else ((spec_l04Reduce.f k x205000 x205001 x205002 x205003).bind fun bt205 => (some (bt205.1, bt205.2.1, bt205.2.2.1, bt205.2.2.2.1, bt205.2.2.2.2)))
def spec_l04Times.l1 : Nat → Int → Int → Int → Int → Int → Int → Int → Int → Int → Int → Int → Int → Int → Int → Option (Int × Int × Int × Int × Bool)
 | 0, _, _, _, _, _, _, _, _, _, _, _, _, _, _ => none
 | k + 1, x7, x8, x202000, x202001, x202002, x202003, x203000, x203001, x203002, x203003, x205000, x205001, x205002, x205003 => if x8 < 2 then (if x7 = 0 then (if x8 = 0 then (spec_l04Times.l1 k x7 (wrap64 (x8 + 1)) x202000 x202001 x202002 x202003 x203000 x203001 x203002 x203003 (wrap64 ((wrap64 (x202000 * x203000)) + (wrap64 (x202001 * x203002)))) x205001 x205002 x205003) else (if x8 = 1 then (spec_l04Times.l1 k x7 (wrap64 (x8 + 1)) x202000 x202001 x202002 x202003 x203000 x203001 x203002 x203003 x205000 (wrap64 ((wrap64 (x202000 * x203001)) + (wrap64 (x202001 * x203003)))) x205002 x205003) else (none))) else (if x7 = 1 then (if x8 = 0 then (spec_l04Times.l1 k x7 (wrap64 (x8 + 1)) x202000 x202001 x202002 x202003 x203000 x203001 x203002 x203003 x205000 x205001 (wrap64 ((wrap64 (x202002 * x203000)) + (wrap64 (x202003 * x203002)))) x205003) else (if x8 = 1 then (spec_l04Times.l1 k x7 (wrap64 (x8 + 1)) x202000 x202001 x202002 x202003 x203000 x203001 x203002 x203003 x205000 x205001 x205002 (wrap64 ((wrap64 (x202002 * x203001)) + (wrap64 (x202003 * x203003))))) else (none))) else (none))) else (spec_l04Times.l0 k (wrap64 (x7 + 1)) x202000 x202001 x202002 x202003 x203000 x203001 x203002 x203003 x205000 x205001 x205002 x205003)
end
def spec_l04Times.f (k : Nat) (a0_0 : Int) (a0_1 : Int) (a0_2 : Int) (a0_3 : Int) (a1_0 : Int) (a1_1 : Int) (a1_2 : Int) (a1_3 : Int) : Option (Int × Int × Int × Int × Bool) := spec_l04Times.l0 k 0 a0_0 a0_1 a0_2 a0_3 a1_0 a1_1 a1_2 a1_3 0 0 0 0
def spec_l04Times.T8 : Bool × List (List Nat × List Nat) := (true, [([], []), ([], []), ([], []), ([2], [2]), ([3], [3]), ([4], [4]), ([], []), ([], []), ([7, 6], [6, 7]), ([8], [8]), ([5, 9], [5, 9]), ([], []), ([11], [11]), ([12], [12]), ([13], [13]), ([], []), ([], []), ([16, 15], [15, 16]), ([17], [17]), ([14, 18], [14, 18]), ([10, 19], [10, 19]), ([0], [0]), ([21, 1, 0, 1, 2, 3, 4, 5, 6, 7, 8, 9, 10, 11, 12, 13, 14, 15, 16, 17, 18, 19, 20], [1, 21]), ([22, 20, 0, 1, 2, 3, 4, 5, 6, 7, 8, 9, 10, 11, 12, 13, 14, 15, 16, 17, 18, 19, 20], [20, 22])])
def spec_l04Times.B8 : List Nat := [0, 0, 0, 4, 12, 28, 0, 0, 192, 448, 1020, 0, 2048, 6144, 14336, 0, 0, 98304, 229376, 522240, 1048572, 1, 4194303, 8388607]
theorem spec_l04Times.tab8 : rtab .any (opsOf Try.f48 8) = spec_l04Times.T8 := by kernel_rfl
theorem spec_l04Times.bits8 : waitsOk spec_l04Times.T8.2 spec_l04Times.B8 = true := by kernel_rfl
set_option maxHeartbeats 8000000 in
set_option maxRecDepth 100000 in
theorem spec_l04Times.calls (k : Nat) (a0_0 : Int) (a0_1 : Int) (a0_2 : Int) (a0_3 : Int) (a1_0 : Int) (a1_1 : Int) (a1_2 : Int) (a1_3 : Int) (r1 : Int) (r2 : Int) (r3 : Int) (r4 : Int) (r5 : Bool) (w : World) (h : spec_l04Times.f k a0_0 a0_1 a0_2 a0_3 a1_0 a1_1 a1_2 a1_3 = some (r1, r2, r3, r4, r5)) :
  Calls Try.prog 48 #[.agg #[.int .i64 a0_0, .int .i64 a0_1, .int .i64 a0_2, .int .i64 a0_3], .agg #[.int .i64 a1_0, .int .i64 a1_1, .int .i64 a1_2, .int .i64 a1_3]] w fun e w' => e = .returned (.tuple #[.agg #[.int .i64 r1, .int .i64 r2, .int .i64 r3, .int .i64 r4], .bool r5]) ∧ Below w.heap.size w w' := by
 have hu33 := Try.underlying33
 have hu22 := Try.underlying22
 have HB := Aside0.mk (Below.refl w.heap.size w)
 have H : (spec_l04Times.l0 k 0 a0_0 a0_1 a0_2 a0_3 a1_0 a1_1 a1_2 a1_3 0 0 0 0) = some (r1, r2, r3, r4, r5) := h
 clear h
 have H' := Aside0.mk H
 clear H
 go_enter Try.func48, Try.ntmps48
 go_wp2_with (first | ((with_reducible refine gate_dst (N := 2) rfl ?_); refine bx_ 2 #[.int .i64 a0_0, .int .i64 a0_1, .int .i64 a0_2, .int .i64 a0_3] 33 ?_; intro gb201 hg w3 hbox hb; have BK201 := Aside0.mk (hbox); have GW201 := bs_ HB hg; have GE201 := bs_ HB hg; replace HB := bt_ HB hb; clear hb hbox hg) | ((with_reducible refine gate_dst (N := 3) rfl ?_); refine bx_ 3 #[.int .i64 a1_0, .int .i64 a1_1, .int .i64 a1_2, .int .i64 a1_3] 33 ?_; intro gb202 hg w4 hbox hb; have BK202 := Aside0.mk (hbox); have GW202 := bs_ HB hg; have GE202 := bs_ HB hg; have NB201_202 := bm_ BK201 hg; have NB202_201 := bn_ BK201 hg; replace BK201 := bb_ BK201 hb; replace HB := bt_ HB hb; clear hb hbox hg) | ((with_reducible refine gate_dst (N := 4) rfl ?_); refine bx_ 4 #[.int .i64 0, .int .i64 0, .int .i64 0, .int .i64 0] 33 ?_; intro gb203 hg w5 hbox hb; have BK203 := Aside0.mk (hbox); have GW203 := bs_ HB hg; have GE203 := bs_ HB hg; have NB201_203 := bm_ BK201 hg; have NB203_201 := bn_ BK201 hg; have NB202_203 := bm_ BK202 hg; have NB203_202 := bn_ BK202 hg; replace BK201 := bb_ BK201 hb; replace BK202 := bb_ BK202 hb; replace HB := bt_ HB hb; clear hb hbox hg) | ((with_reducible refine gate_dst (N := 6) rfl ?_); refine bx_ 6 #[.int .i64 0, .int .i64 0, .int .i64 0, .int .i64 0] 33 ?_; intro gb204 hg w6 hbox hb; have BK204 := Aside0.mk (hbox); have GW204 := bs_ HB hg; have GE204 := bs_ HB hg; have NB201_204 := bm_ BK201 hg; have NB204_201 := bn_ BK201 hg; have NB202_204 := bm_ BK202 hg; have NB204_202 := bn_ BK202 hg; have NB203_204 := bm_ BK203 hg; have NB204_203 := bn_ BK203 hg; replace BK201 := bb_ BK201 hb; replace BK202 := bb_ BK202 hb; replace BK203 := bb_ BK203 hb; replace HB := bt_ HB hb; clear hb hbox hg; have hnb7 := NB204_201.out; have hnc7 := NB201_204.out; have hnb8 := NB204_202.out; have hnc8 := NB202_204.out; have hnb9 := NB204_203.out; have hnc9 := NB203_204.out; have hcz10_0 : w6.cell? ⟨gb204, 0, none⟩ = some (.int .i64 0) := (blk_cell BK204.out 0).trans rfl; have hcz10_1 : w6.cell? ⟨gb204, 1, none⟩ = some (.int .i64 0) := (blk_cell BK204.out 1).trans rfl; have hcz10_2 : w6.cell? ⟨gb204, 2, none⟩ = some (.int .i64 0) := (blk_cell BK204.out 2).trans rfl; have hcz10_3 : w6.cell? ⟨gb204, 3, none⟩ = some (.int .i64 0) := (blk_cell BK204.out 3).trans rfl; have hfz10_0 := blk_frozen BK204.out 0; have hfz10_1 := blk_frozen BK204.out 1; have hfz10_2 := blk_frozen BK204.out 2; have hfz10_3 := blk_frozen BK204.out 3))
 go_loopg [7] k (fun kq v7 w' => ∃ (x7_1 : Int) (x205000_1 : Int) (x205001_1 : Int) (x205002_1 : Int) (x205003_1 : Int), v7 = .int .i64 x7_1 ∧ Aside0 (spec_l04Times.l0 kq x7_1 a0_0 a0_1 a0_2 a0_3 a1_0 a1_1 a1_2 a1_3 x205000_1 x205001_1 x205002_1 x205003_1 = some (r1, r2, r3, r4, r5)) ∧ Aside0 (kq ≤ k) ∧ Aside0 (w'.heap[gb201]? = some (.cells #[.int .i64 a0_0, .int .i64 a0_1, .int .i64 a0_2, .int .i64 a0_3] 33 (0, 0))) ∧ Aside0 (w'.heap[gb202]? = some (.cells #[.int .i64 a1_0, .int .i64 a1_1, .int .i64 a1_2, .int .i64 a1_3] 33 (0, 0))) ∧ Aside0 (w'.heap[gb203]? = some (.cells #[.int .i64 0, .int .i64 0, .int .i64 0, .int .i64 0] 33 (0, 0))) ∧ Aside0 (w'.heap[gb204]? = some (.cells #[.int .i64 x205000_1, .int .i64 x205001_1, .int .i64 x205002_1, .int .i64 x205003_1] 33 (0, 0))) ∧ Aside0 (Below w.heap.size w w'))
 case atStart => exact ⟨(0), (0), (0), (0), (0), (by first | rfl | (simp; done) | (simp [*]; done) | (simp [wrap64]; done)), H', ⟨Nat.le_refl _⟩, ⟨by (with_reducible repeat first | apply blk_drewN | apply blk_drew | apply blk_alloc); refine blk_far ?_ NB201_204.out _; (with_reducible repeat first | apply blk_drewN | apply blk_drew | apply blk_alloc); refine blk_far ?_ NB201_204.out _; (with_reducible repeat first | apply blk_drewN | apply blk_drew | apply blk_alloc); refine blk_far ?_ NB201_204.out _; (with_reducible repeat first | apply blk_drewN | apply blk_drew | apply blk_alloc); refine blk_far ?_ NB201_204.out _; (with_reducible repeat first | apply blk_drewN | apply blk_drew | apply blk_alloc); exact BK201.out⟩, ⟨by (with_reducible repeat first | apply blk_drewN | apply blk_drew | apply blk_alloc); refine blk_far ?_ NB202_204.out _; (with_reducible repeat first | apply blk_drewN | apply blk_drew | apply blk_alloc); refine blk_far ?_ NB202_204.out _; (with_reducible repeat first | apply blk_drewN | apply blk_drew | apply blk_alloc); refine blk_far ?_ NB202_204.out _; (with_reducible repeat first | apply blk_drewN | apply blk_drew | apply blk_alloc); refine blk_far ?_ NB202_204.out _; (with_reducible repeat first | apply blk_drewN | apply blk_drew | apply blk_alloc); exact BK202.out⟩, ⟨by (with_reducible repeat first | apply blk_drewN | apply blk_drew | apply blk_alloc); refine blk_far ?_ NB203_204.out _; (with_reducible repeat first | apply blk_drewN | apply blk_drew | apply blk_alloc); refine blk_far ?_ NB203_204.out _; (with_reducible repeat first | apply blk_drewN | apply blk_drew | apply blk_alloc); refine blk_far ?_ NB203_204.out _; (with_reducible repeat first | apply blk_drewN | apply blk_drew | apply blk_alloc); refine blk_far ?_ NB203_204.out _; (with_reducible repeat first | apply blk_drewN | apply blk_drew | apply blk_alloc); exact BK203.out⟩, ⟨by (with_reducible repeat first | apply blk_drewN | apply blk_drew | apply blk_alloc); refine blk_put (cs := #[.int .i64 0, .int .i64 0, .int .i64 0, .int .i64 0]) ?_ 3 _ rfl; (with_reducible repeat first | apply blk_drewN | apply blk_drew | apply blk_alloc); refine blk_put (cs := #[.int .i64 0, .int .i64 0, .int .i64 0, .int .i64 0]) ?_ 2 _ rfl; (with_reducible repeat first | apply blk_drewN | apply blk_drew | apply blk_alloc); refine blk_put (cs := #[.int .i64 0, .int .i64 0, .int .i64 0, .int .i64 0]) ?_ 1 _ rfl; (with_reducible repeat first | apply blk_drewN | apply blk_drew | apply blk_alloc); refine blk_put (cs := #[.int .i64 0, .int .i64 0, .int .i64 0, .int .i64 0]) ?_ 0 _ rfl; (with_reducible repeat first | apply blk_drewN | apply blk_drew | apply blk_alloc); exact BK204.out⟩, bw_ HB⟩
 case round =>
  clear H'
  try clear p2
  try clear c4
  try clear c7
  try clear c8
  try clear c9
  try clear hcz10_0
  try clear hcz10_1
  try clear hcz10_2
  try clear hcz10_3
  try clear hfz10_0
  try clear hfz10_1
  try clear hfz10_2
  try clear hfz10_3
  obtain ⟨x7_1, x205000_1, x205001_1, x205002_1, x205003_1, rfl, HA, HK1, BK201, BK202, BK203, BK204, HB⟩ := hrel
  cases gk with
  | zero => exact absurd HA.out (by simp [spec_l04Times.l0])
  | succ k1 =>
   have H := HA.out
   clear HA
   simp only [spec_l04Times.l0] at H
   by_cases c11 : x7_1 < 2
   ·rw [if_pos c11] at H
    have c11b0 : decide (x7_1 < 2) = true := decide_eq_true c11
    clear c11
    have H' := Aside0.mk H
    clear H
    go_wp2
    go_loopg [8] k1 (fun kq v8 w' => ∃ (x8_2 : Int) (x205000_2 : Int) (x205001_2 : Int) (x205002_2 : Int) (x205003_2 : Int), v8 = .int .i64 x8_2 ∧ Aside0 (spec_l04Times.l1 kq x7_1 x8_2 a0_0 a0_1 a0_2 a0_3 a1_0 a1_1 a1_2 a1_3 x205000_2 x205001_2 x205002_2 x205003_2 = some (r1, r2, r3, r4, r5)) ∧ Aside0 (kq ≤ k1) ∧ Aside0 (w'.heap[gb201]? = some (.cells #[.int .i64 a0_0, .int .i64 a0_1, .int .i64 a0_2, .int .i64 a0_3] 33 (0, 0))) ∧ Aside0 (w'.heap[gb202]? = some (.cells #[.int .i64 a1_0, .int .i64 a1_1, .int .i64 a1_2, .int .i64 a1_3] 33 (0, 0))) ∧ Aside0 (w'.heap[gb203]? = some (.cells #[.int .i64 0, .int .i64 0, .int .i64 0, .int .i64 0] 33 (0, 0))) ∧ Aside0 (w'.heap[gb204]? = some (.cells #[.int .i64 x205000_2, .int .i64 x205001_2, .int .i64 x205002_2, .int .i64 x205003_2] 33 (0, 0))) ∧ Aside0 (Below w.heap.size w w'))
    case atStart => exact ⟨(0), (x205000_1), (x205001_1), (x205002_1), (x205003_1), (by first | rfl | (simp; done) | (simp [*]; done) | (simp [wrap64]; done)), H', ⟨Nat.le_refl _⟩, bl_ BK201, bl_ BK202, bl_ BK203, bl_ BK204, bw_ HB⟩
    case round =>
     clear H'
     try clear c1
     try clear p2
     try clear c4
     try clear c7
     try clear c8
     try clear c9
     try clear c11
     try clear c11b0
     try clear hcz10_0
     try clear hcz10_1
     try clear hcz10_2
     try clear hcz10_3
     try clear hfz10_0
     try clear hfz10_1
     try clear hfz10_2
     try clear hfz10_3
     try clear p2
     obtain ⟨x8_2, x205000_2, x205001_2, x205002_2, x205003_2, rfl, HA, HK2, BK201, BK202, BK203, BK204, HB⟩ := hrel
     cases gk with
     | zero => exact absurd HA.out (by simp [spec_l04Times.l1])
     | succ k2 =>
      have H := HA.out
      clear HA
      simp only [spec_l04Times.l1] at H
      by_cases c12 : x8_2 < 2
      ·rw [if_pos c12] at H
       have c12b0 : decide (x8_2 < 2) = true := decide_eq_true c12
       clear c12
       by_cases c13 : x7_1 = 0
       ·subst c13
        have H1 : (if x8_2 = 0 then (spec_l04Times.l1 k2 0 (wrap64 (x8_2 + 1)) a0_0 a0_1 a0_2 a0_3 a1_0 a1_1 a1_2 a1_3 (wrap64 ((wrap64 (a0_0 * a1_0)) + (wrap64 (a0_1 * a1_2)))) x205001_2 x205002_2 x205003_2) else (if x8_2 = 1 then (spec_l04Times.l1 k2 0 (wrap64 (x8_2 + 1)) a0_0 a0_1 a0_2 a0_3 a1_0 a1_1 a1_2 a1_3 x205000_2 (wrap64 ((wrap64 (a0_0 * a1_1)) + (wrap64 (a0_1 * a1_3)))) x205002_2 x205003_2) else (none))) = some (r1, r2, r3, r4, r5) := by rw [if_pos rfl] at H; exact H
        clear H
        have H := H1
        clear H1
        by_cases c14 : x8_2 = 0
        ·subst c14
         have H1 : (spec_l04Times.l1 k2 0 (wrap64 (0 + 1)) a0_0 a0_1 a0_2 a0_3 a1_0 a1_1 a1_2 a1_3 (wrap64 ((wrap64 (a0_0 * a1_0)) + (wrap64 (a0_1 * a1_2)))) x205001_2 x205002_2 x205003_2) = some (r1, r2, r3, r4, r5) := by rw [if_pos rfl] at H; exact H
         clear H
         have H := H1
         clear H1
         have H' := Aside0.mk H
         clear H
         try go_wp2
         replace BK201 := Aside0.mk (blk_drew BK201.out)
         replace BK202 := Aside0.mk (blk_drew BK202.out)
         replace BK203 := Aside0.mk (blk_drew BK203.out)
         replace BK204 := Aside0.mk (blk_drew BK204.out)
         replace HB := Aside0.mk (below_drew1 HB.out)
         refine start_ (n := 24) (S := fun w' => w'.cell? ⟨gb201, 0, none⟩ = some (.int .i64 a0_0) ∧ w'.cell? ⟨gb201, 1, none⟩ = some (.int .i64 a0_1) ∧ w'.cell? ⟨gb201, 2, none⟩ = some (.int .i64 a0_2) ∧ w'.cell? ⟨gb201, 3, none⟩ = some (.int .i64 a0_3) ∧ w'.cell? ⟨gb202, 0, none⟩ = some (.int .i64 a1_0) ∧ w'.cell? ⟨gb202, 1, none⟩ = some (.int .i64 a1_1) ∧ w'.cell? ⟨gb202, 2, none⟩ = some (.int .i64 a1_2) ∧ w'.cell? ⟨gb202, 3, none⟩ = some (.int .i64 a1_3)) (ds := []) #[false, false, false, false, false, false, false, false, false, false, false, false, false, false, false, false, false, false, false, false, false, false, false, false] (by kernel_rfl) rfl rfl ⟨(blk_cell BK201.out 0).trans rfl, (blk_cell BK201.out 1).trans rfl, (blk_cell BK201.out 2).trans rfl, (blk_cell BK201.out 3).trans rfl, (blk_cell BK202.out 0).trans rfl, (blk_cell BK202.out 1).trans rfl, (blk_cell BK202.out 2).trans rfl, (blk_cell BK202.out 3).trans rfl⟩ (fun hHeld => ?_); refine with_tabW spec_l04Times.tab8 spec_l04Times.bits8 (fun HT_ HW_ => ?_)
         generalize wr.drew = w15 at BK201 BK202 BK203 BK204 HB hHeld ⊢
         refine pu_ HT_ 0 (some 20) #[true, false, false, false, false, false, false, false, false, false, false, false, false, false, false, false, false, false, false, false, false, false, false, false] ?_
         refine pu_ HT_ 1 (some 21) #[true, true, false, false, false, false, false, false, false, false, false, false, false, false, false, false, false, false, false, false, false, false, false, false] ?_
         refine pu_ HT_ 2 (some 22) #[true, true, true, false, false, false, false, false, false, false, false, false, false, false, false, false, false, false, false, false, false, false, false, false] ?_
         refine pu_ HT_ 3 (some 23) #[true, true, true, true, false, false, false, false, false, false, false, false, false, false, false, false, false, false, false, false, false, false, false, false] ?_
         refine pu_ HT_ 4 (some 24) #[true, true, true, true, true, false, false, false, false, false, false, false, false, false, false, false, false, false, false, false, false, false, false, false] ?_
         refine pu_ HT_ 6 (some 26) #[true, true, true, true, true, false, true, false, false, false, false, false, false, false, false, false, false, false, false, false, false, false, false, false] ?_
         refine pu_ HT_ 7 (some 27) #[true, true, true, true, true, false, true, true, false, false, false, false, false, false, false, false, false, false, false, false, false, false, false, false] ?_
         refine pu_ HT_ 8 (some 28) #[true, true, true, true, true, false, true, true, true, false, false, false, false, false, false, false, false, false, false, false, false, false, false, false] ?_
         refine pu_ HT_ 11 (some 31) #[true, true, true, true, true, false, true, true, true, false, false, true, false, false, false, false, false, false, false, false, false, false, false, false] ?_
         refine pu_ HT_ 12 (some 32) #[true, true, true, true, true, false, true, true, true, false, false, true, true, false, false, false, false, false, false, false, false, false, false, false] ?_
         refine pu_ HT_ 13 (some 33) #[true, true, true, true, true, false, true, true, true, false, false, true, true, true, false, false, false, false, false, false, false, false, false, false] ?_
         refine pu_ HT_ 15 (some 35) #[true, true, true, true, true, false, true, true, true, false, false, true, true, true, false, true, false, false, false, false, false, false, false, false] ?_
         refine pu_ HT_ 16 (some 36) #[true, true, true, true, true, false, true, true, true, false, false, true, true, true, false, true, true, false, false, false, false, false, false, false] ?_
         refine pu_ HT_ 17 (some 37) #[true, true, true, true, true, false, true, true, true, false, false, true, true, true, false, true, true, true, false, false, false, false, false, false] ?_
         refine pu_ HT_ 21 (some 41) #[true, true, true, true, true, false, true, true, true, false, false, true, true, true, false, true, true, true, false, false, false, true, false, false] ?_
         refine ta_ HT_ HW_ 5 (some 25) #[true, true, true, true, true, true, true, true, true, false, false, true, true, true, false, true, true, true, false, false, false, true, false, false] hHeld ?_ (hy := by rintro w' ⟨s0, s1, s2, s3, s4, s5, s6, s7⟩; go_simp; with_reducible rfl)
         refine ta_ HT_ HW_ 9 (some 29) #[true, true, true, true, true, true, true, true, true, true, false, true, true, true, false, true, true, true, false, false, false, true, false, false] hHeld ?_ (hy := by rintro w' ⟨s0, s1, s2, s3, s4, s5, s6, s7⟩; go_simp; with_reducible rfl)
         refine pu_ HT_ 10 (some 30) #[true, true, true, true, true, true, true, true, true, true, true, true, true, true, false, true, true, true, false, false, false, true, false, false] ?_
         refine ta_ HT_ HW_ 14 (some 34) #[true, true, true, true, true, true, true, true, true, true, true, true, true, true, true, true, true, true, false, false, false, true, false, false] hHeld ?_ (hy := by rintro w' ⟨s0, s1, s2, s3, s4, s5, s6, s7⟩; go_simp; with_reducible rfl)
         refine ta_ HT_ HW_ 18 (some 38) #[true, true, true, true, true, true, true, true, true, true, true, true, true, true, true, true, true, true, true, false, false, true, false, false] hHeld ?_ (hy := by rintro w' ⟨s0, s1, s2, s3, s4, s5, s6, s7⟩; go_simp; with_reducible rfl)
         refine pu_ HT_ 19 (some 39) #[true, true, true, true, true, true, true, true, true, true, true, true, true, true, true, true, true, true, true, true, false, true, false, false] ?_
         refine pu_ HT_ 20 (some 40) #[true, true, true, true, true, true, true, true, true, true, true, true, true, true, true, true, true, true, true, true, true, true, false, false] ?_
         refine pu_ HT_ 22 (some 42) #[true, true, true, true, true, true, true, true, true, true, true, true, true, true, true, true, true, true, true, true, true, true, true, false] ?_
         refine one_ (i := 23) (N := none) #[true, true, true, true, true, true, true, true, true, true, true, true, true, true, true, true, true, true, true, true, true, true, true, true] rfl rfl (one_of HT_.out (by kernel_rfl)) (by decide) (fun K hK => ?_)
         have hs16 : w15.cell? ⟨gb204, 0, none⟩ = some (.int .i64 x205000_2) := (blk_cell BK204.out 0).trans rfl
         have hfs16 := blk_frozen BK204.out 0
         have hns16_0 := NB201_204.out
         have hns16_1 := NB202_204.out
         have hns16_2 := NB203_204.out
         have hms16_0 := NB204_201.out
         have hms16_1 := NB204_202.out
         have hms16_2 := NB204_203.out
         refine skip_ (w1 := ?_) (by rfl) rfl ?_ ?_
         rotate_left
         ·go_simp
          rfl
         refine hK.out _ _ ⟨((cell_far (p := ⟨gb204, _, none⟩) NB201_204.out _).trans (hHeld.1)), ((cell_far (p := ⟨gb204, _, none⟩) NB201_204.out _).trans (hHeld.2.1)), ((cell_far (p := ⟨gb204, _, none⟩) NB201_204.out _).trans (hHeld.2.2.1)), ((cell_far (p := ⟨gb204, _, none⟩) NB201_204.out _).trans (hHeld.2.2.2.1)), ((cell_far (p := ⟨gb204, _, none⟩) NB202_204.out _).trans (hHeld.2.2.2.2.1)), ((cell_far (p := ⟨gb204, _, none⟩) NB202_204.out _).trans (hHeld.2.2.2.2.2.1)), ((cell_far (p := ⟨gb204, _, none⟩) NB202_204.out _).trans (hHeld.2.2.2.2.2.2.1)), ((cell_far (p := ⟨gb204, _, none⟩) NB202_204.out _).trans (hHeld.2.2.2.2.2.2.2))⟩ (fun hHeld => ?_)
         clear hK K
         refine done_ (done_of HT_.out (by kernel_rfl)) ?_
         try go_wp2
         go_roundg k2
         case measure => have := HK1.out; have := HK2.out; omega
         case rel => exact ⟨(wrap64 (0 + 1)), (wrap64 ((wrap64 (a0_0 * a1_0)) + (wrap64 (a0_1 * a1_2)))), (x205001_2), (x205002_2), (x205003_2), (by first | rfl | (simp; done) | (simp [*]; done) | (simp [wrap64]; done)), H', ⟨by have := HK1.out; have := HK2.out; omega⟩, ⟨by (with_reducible repeat first | apply blk_drewN | apply blk_drew | apply blk_alloc); refine blk_far ?_ NB201_204.out _; (with_reducible repeat first | apply blk_drewN | apply blk_drew | apply blk_alloc); exact BK201.out⟩, ⟨by (with_reducible repeat first | apply blk_drewN | apply blk_drew | apply blk_alloc); refine blk_far ?_ NB202_204.out _; (with_reducible repeat first | apply blk_drewN | apply blk_drew | apply blk_alloc); exact BK202.out⟩, ⟨by (with_reducible repeat first | apply blk_drewN | apply blk_drew | apply blk_alloc); refine blk_far ?_ NB203_204.out _; (with_reducible repeat first | apply blk_drewN | apply blk_drew | apply blk_alloc); exact BK203.out⟩, ⟨by (with_reducible repeat first | apply blk_drewN | apply blk_drew | apply blk_alloc); refine blk_put (cs := #[.int .i64 x205000_2, .int .i64 x205001_2, .int .i64 x205002_2, .int .i64 x205003_2]) ?_ 0 _ rfl; (with_reducible repeat first | apply blk_drewN | apply blk_drew | apply blk_alloc); exact BK204.out⟩, bw_ HB⟩
        ·rw [if_neg c14] at H
         have c14b0 : (x8_2 == 0) = false := beq_eq_false_iff_ne.mpr c14
         have c14b1 : (x8_2 != 0) = true := bne_iff_ne.mpr c14
         by_cases c17 : x8_2 = 1
         ·subst c17
          have H1 : (spec_l04Times.l1 k2 0 (wrap64 (1 + 1)) a0_0 a0_1 a0_2 a0_3 a1_0 a1_1 a1_2 a1_3 x205000_2 (wrap64 ((wrap64 (a0_0 * a1_1)) + (wrap64 (a0_1 * a1_3)))) x205002_2 x205003_2) = some (r1, r2, r3, r4, r5) := by rw [if_pos rfl] at H; exact H
          clear H
          have H := H1
          clear H1
          have H' := Aside0.mk H
          clear H
          try go_wp2
          replace BK201 := Aside0.mk (blk_drew BK201.out)
          replace BK202 := Aside0.mk (blk_drew BK202.out)
          replace BK203 := Aside0.mk (blk_drew BK203.out)
          replace BK204 := Aside0.mk (blk_drew BK204.out)
          replace HB := Aside0.mk (below_drew1 HB.out)
          refine start_ (n := 24) (S := fun w' => w'.cell? ⟨gb201, 0, none⟩ = some (.int .i64 a0_0) ∧ w'.cell? ⟨gb201, 1, none⟩ = some (.int .i64 a0_1) ∧ w'.cell? ⟨gb201, 2, none⟩ = some (.int .i64 a0_2) ∧ w'.cell? ⟨gb201, 3, none⟩ = some (.int .i64 a0_3) ∧ w'.cell? ⟨gb202, 0, none⟩ = some (.int .i64 a1_0) ∧ w'.cell? ⟨gb202, 1, none⟩ = some (.int .i64 a1_1) ∧ w'.cell? ⟨gb202, 2, none⟩ = some (.int .i64 a1_2) ∧ w'.cell? ⟨gb202, 3, none⟩ = some (.int .i64 a1_3)) (ds := []) #[false, false, false, false, false, false, false, false, false, false, false, false, false, false, false, false, false, false, false, false, false, false, false, false] (by kernel_rfl) rfl rfl ⟨(blk_cell BK201.out 0).trans rfl, (blk_cell BK201.out 1).trans rfl, (blk_cell BK201.out 2).trans rfl, (blk_cell BK201.out 3).trans rfl, (blk_cell BK202.out 0).trans rfl, (blk_cell BK202.out 1).trans rfl, (blk_cell BK202.out 2).trans rfl, (blk_cell BK202.out 3).trans rfl⟩ (fun hHeld => ?_); refine with_tabW spec_l04Times.tab8 spec_l04Times.bits8 (fun HT_ HW_ => ?_)
          generalize wr.drew = w18 at BK201 BK202 BK203 BK204 HB hHeld ⊢
          refine pu_ HT_ 0 (some 20) #[true, false, false, false, false, false, false, false, false, false, false, false, false, false, false, false, false, false, false, false, false, false, false, false] ?_
          refine pu_ HT_ 1 (some 21) #[true, true, false, false, false, false, false, false, false, false, false, false, false, false, false, false, false, false, false, false, false, false, false, false] ?_
          refine pu_ HT_ 2 (some 22) #[true, true, true, false, false, false, false, false, false, false, false, false, false, false, false, false, false, false, false, false, false, false, false, false] ?_
          refine pu_ HT_ 3 (some 23) #[true, true, true, true, false, false, false, false, false, false, false, false, false, false, false, false, false, false, false, false, false, false, false, false] ?_
          refine pu_ HT_ 4 (some 24) #[true, true, true, true, true, false, false, false, false, false, false, false, false, false, false, false, false, false, false, false, false, false, false, false] ?_
          refine pu_ HT_ 6 (some 26) #[true, true, true, true, true, false, true, false, false, false, false, false, false, false, false, false, false, false, false, false, false, false, false, false] ?_
          refine pu_ HT_ 7 (some 27) #[true, true, true, true, true, false, true, true, false, false, false, false, false, false, false, false, false, false, false, false, false, false, false, false] ?_
          refine pu_ HT_ 8 (some 28) #[true, true, true, true, true, false, true, true, true, false, false, false, false, false, false, false, false, false, false, false, false, false, false, false] ?_
          refine pu_ HT_ 11 (some 31) #[true, true, true, true, true, false, true, true, true, false, false, true, false, false, false, false, false, false, false, false, false, false, false, false] ?_
          refine pu_ HT_ 12 (some 32) #[true, true, true, true, true, false, true, true, true, false, false, true, true, false, false, false, false, false, false, false, false, false, false, false] ?_
          refine pu_ HT_ 13 (some 33) #[true, true, true, true, true, false, true, true, true, false, false, true, true, true, false, false, false, false, false, false, false, false, false, false] ?_
          refine pu_ HT_ 15 (some 35) #[true, true, true, true, true, false, true, true, true, false, false, true, true, true, false, true, false, false, false, false, false, false, false, false] ?_
          refine pu_ HT_ 16 (some 36) #[true, true, true, true, true, false, true, true, true, false, false, true, true, true, false, true, true, false, false, false, false, false, false, false] ?_
          refine pu_ HT_ 17 (some 37) #[true, true, true, true, true, false, true, true, true, false, false, true, true, true, false, true, true, true, false, false, false, false, false, false] ?_
          refine pu_ HT_ 21 (some 41) #[true, true, true, true, true, false, true, true, true, false, false, true, true, true, false, true, true, true, false, false, false, true, false, false] ?_
          refine ta_ HT_ HW_ 5 (some 25) #[true, true, true, true, true, true, true, true, true, false, false, true, true, true, false, true, true, true, false, false, false, true, false, false] hHeld ?_ (hy := by rintro w' ⟨s0, s1, s2, s3, s4, s5, s6, s7⟩; go_simp; with_reducible rfl)
          refine ta_ HT_ HW_ 9 (some 29) #[true, true, true, true, true, true, true, true, true, true, false, true, true, true, false, true, true, true, false, false, false, true, false, false] hHeld ?_ (hy := by rintro w' ⟨s0, s1, s2, s3, s4, s5, s6, s7⟩; go_simp; with_reducible rfl)
          refine pu_ HT_ 10 (some 30) #[true, true, true, true, true, true, true, true, true, true, true, true, true, true, false, true, true, true, false, false, false, true, false, false] ?_
          refine ta_ HT_ HW_ 14 (some 34) #[true, true, true, true, true, true, true, true, true, true, true, true, true, true, true, true, true, true, false, false, false, true, false, false] hHeld ?_ (hy := by rintro w' ⟨s0, s1, s2, s3, s4, s5, s6, s7⟩; go_simp; with_reducible rfl)
          refine ta_ HT_ HW_ 18 (some 38) #[true, true, true, true, true, true, true, true, true, true, true, true, true, true, true, true, true, true, true, false, false, true, false, false] hHeld ?_ (hy := by rintro w' ⟨s0, s1, s2, s3, s4, s5, s6, s7⟩; go_simp; with_reducible rfl)
          refine pu_ HT_ 19 (some 39) #[true, true, true, true, true, true, true, true, true, true, true, true, true, true, true, true, true, true, true, true, false, true, false, false] ?_
          refine pu_ HT_ 20 (some 40) #[true, true, true, true, true, true, true, true, true, true, true, true, true, true, true, true, true, true, true, true, true, true, false, false] ?_
          refine pu_ HT_ 22 (some 42) #[true, true, true, true, true, true, true, true, true, true, true, true, true, true, true, true, true, true, true, true, true, true, true, false] ?_
          refine one_ (i := 23) (N := none) #[true, true, true, true, true, true, true, true, true, true, true, true, true, true, true, true, true, true, true, true, true, true, true, true] rfl rfl (one_of HT_.out (by kernel_rfl)) (by decide) (fun K hK => ?_)
          have hs19 : w18.cell? ⟨gb204, 1, none⟩ = some (.int .i64 x205001_2) := (blk_cell BK204.out 1).trans rfl
          have hfs19 := blk_frozen BK204.out 1
          have hns19_0 := NB201_204.out
          have hns19_1 := NB202_204.out
          have hns19_2 := NB203_204.out
          have hms19_0 := NB204_201.out
          have hms19_1 := NB204_202.out
          have hms19_2 := NB204_203.out
          refine skip_ (w1 := ?_) (by rfl) rfl ?_ ?_
          rotate_left
          ·go_simp
           rfl
          refine hK.out _ _ ⟨((cell_far (p := ⟨gb204, _, none⟩) NB201_204.out _).trans (hHeld.1)), ((cell_far (p := ⟨gb204, _, none⟩) NB201_204.out _).trans (hHeld.2.1)), ((cell_far (p := ⟨gb204, _, none⟩) NB201_204.out _).trans (hHeld.2.2.1)), ((cell_far (p := ⟨gb204, _, none⟩) NB201_204.out _).trans (hHeld.2.2.2.1)), ((cell_far (p := ⟨gb204, _, none⟩) NB202_204.out _).trans (hHeld.2.2.2.2.1)), ((cell_far (p := ⟨gb204, _, none⟩) NB202_204.out _).trans (hHeld.2.2.2.2.2.1)), ((cell_far (p := ⟨gb204, _, none⟩) NB202_204.out _).trans (hHeld.2.2.2.2.2.2.1)), ((cell_far (p := ⟨gb204, _, none⟩) NB202_204.out _).trans (hHeld.2.2.2.2.2.2.2))⟩ (fun hHeld => ?_)
          clear hK K
          refine done_ (done_of HT_.out (by kernel_rfl)) ?_
          try go_wp2
          go_roundg k2
          case measure => have := HK1.out; have := HK2.out; omega
          case rel => exact ⟨(wrap64 (1 + 1)), (x205000_2), (wrap64 ((wrap64 (a0_0 * a1_1)) + (wrap64 (a0_1 * a1_3)))), (x205002_2), (x205003_2), (by first | rfl | (simp; done) | (simp [*]; done) | (simp [wrap64]; done)), H', ⟨by have := HK1.out; have := HK2.out; omega⟩, ⟨by (with_reducible repeat first | apply blk_drewN | apply blk_drew | apply blk_alloc); refine blk_far ?_ NB201_204.out _; (with_reducible repeat first | apply blk_drewN | apply blk_drew | apply blk_alloc); exact BK201.out⟩, ⟨by (with_reducible repeat first | apply blk_drewN | apply blk_drew | apply blk_alloc); refine blk_far ?_ NB202_204.out _; (with_reducible repeat first | apply blk_drewN | apply blk_drew | apply blk_alloc); exact BK202.out⟩, ⟨by (with_reducible repeat first | apply blk_drewN | apply blk_drew | apply blk_alloc); refine blk_far ?_ NB203_204.out _; (with_reducible repeat first | apply blk_drewN | apply blk_drew | apply blk_alloc); exact BK203.out⟩, ⟨by (with_reducible repeat first | apply blk_drewN | apply blk_drew | apply blk_alloc); refine blk_put (cs := #[.int .i64 x205000_2, .int .i64 x205001_2, .int .i64 x205002_2, .int .i64 x205003_2]) ?_ 1 _ rfl; (with_reducible repeat first | apply blk_drewN | apply blk_drew | apply blk_alloc); exact BK204.out⟩, bw_ HB⟩
         ·rw [if_neg c17] at H
          exact absurd H (by simp)
       ·rw [if_neg c13] at H
        have c13b0 : (x7_1 == 0) = false := beq_eq_false_iff_ne.mpr c13
        have c13b1 : (x7_1 != 0) = true := bne_iff_ne.mpr c13
        by_cases c20 : x7_1 = 1
        ·subst c20
         have H1 : (if x8_2 = 0 then (spec_l04Times.l1 k2 1 (wrap64 (x8_2 + 1)) a0_0 a0_1 a0_2 a0_3 a1_0 a1_1 a1_2 a1_3 x205000_2 x205001_2 (wrap64 ((wrap64 (a0_2 * a1_0)) + (wrap64 (a0_3 * a1_2)))) x205003_2) else (if x8_2 = 1 then (spec_l04Times.l1 k2 1 (wrap64 (x8_2 + 1)) a0_0 a0_1 a0_2 a0_3 a1_0 a1_1 a1_2 a1_3 x205000_2 x205001_2 x205002_2 (wrap64 ((wrap64 (a0_2 * a1_1)) + (wrap64 (a0_3 * a1_3))))) else (none))) = some (r1, r2, r3, r4, r5) := by rw [if_pos rfl] at H; exact H
         clear H
         have H := H1
         clear H1
         by_cases c21 : x8_2 = 0
         ·subst c21
          have H1 : (spec_l04Times.l1 k2 1 (wrap64 (0 + 1)) a0_0 a0_1 a0_2 a0_3 a1_0 a1_1 a1_2 a1_3 x205000_2 x205001_2 (wrap64 ((wrap64 (a0_2 * a1_0)) + (wrap64 (a0_3 * a1_2)))) x205003_2) = some (r1, r2, r3, r4, r5) := by rw [if_pos rfl] at H; exact H
          clear H
          have H := H1
          clear H1
          have H' := Aside0.mk H
          clear H
          try go_wp2
          replace BK201 := Aside0.mk (blk_drew BK201.out)
          replace BK202 := Aside0.mk (blk_drew BK202.out)
          replace BK203 := Aside0.mk (blk_drew BK203.out)
          replace BK204 := Aside0.mk (blk_drew BK204.out)
          replace HB := Aside0.mk (below_drew1 HB.out)
          refine start_ (n := 24) (S := fun w' => w'.cell? ⟨gb201, 0, none⟩ = some (.int .i64 a0_0) ∧ w'.cell? ⟨gb201, 1, none⟩ = some (.int .i64 a0_1) ∧ w'.cell? ⟨gb201, 2, none⟩ = some (.int .i64 a0_2) ∧ w'.cell? ⟨gb201, 3, none⟩ = some (.int .i64 a0_3) ∧ w'.cell? ⟨gb202, 0, none⟩ = some (.int .i64 a1_0) ∧ w'.cell? ⟨gb202, 1, none⟩ = some (.int .i64 a1_1) ∧ w'.cell? ⟨gb202, 2, none⟩ = some (.int .i64 a1_2) ∧ w'.cell? ⟨gb202, 3, none⟩ = some (.int .i64 a1_3)) (ds := []) #[false, false, false, false, false, false, false, false, false, false, false, false, false, false, false, false, false, false, false, false, false, false, false, false] (by kernel_rfl) rfl rfl ⟨(blk_cell BK201.out 0).trans rfl, (blk_cell BK201.out 1).trans rfl, (blk_cell BK201.out 2).trans rfl, (blk_cell BK201.out 3).trans rfl, (blk_cell BK202.out 0).trans rfl, (blk_cell BK202.out 1).trans rfl, (blk_cell BK202.out 2).trans rfl, (blk_cell BK202.out 3).trans rfl⟩ (fun hHeld => ?_); refine with_tabW spec_l04Times.tab8 spec_l04Times.bits8 (fun HT_ HW_ => ?_)
          generalize wr.drew = w22 at BK201 BK202 BK203 BK204 HB hHeld ⊢
          refine pu_ HT_ 0 (some 20) #[true, false, false, false, false, false, false, false, false, false, false, false, false, false, false, false, false, false, false, false, false, false, false, false] ?_
          refine pu_ HT_ 1 (some 21) #[true, true, false, false, false, false, false, false, false, false, false, false, false, false, false, false, false, false, false, false, false, false, false, false] ?_
          refine pu_ HT_ 2 (some 22) #[true, true, true, false, false, false, false, false, false, false, false, false, false, false, false, false, false, false, false, false, false, false, false, false] ?_
          refine pu_ HT_ 3 (some 23) #[true, true, true, true, false, false, false, false, false, false, false, false, false, false, false, false, false, false, false, false, false, false, false, false] ?_
          refine pu_ HT_ 4 (some 24) #[true, true, true, true, true, false, false, false, false, false, false, false, false, false, false, false, false, false, false, false, false, false, false, false] ?_
          refine pu_ HT_ 6 (some 26) #[true, true, true, true, true, false, true, false, false, false, false, false, false, false, false, false, false, false, false, false, false, false, false, false] ?_
          refine pu_ HT_ 7 (some 27) #[true, true, true, true, true, false, true, true, false, false, false, false, false, false, false, false, false, false, false, false, false, false, false, false] ?_
          refine pu_ HT_ 8 (some 28) #[true, true, true, true, true, false, true, true, true, false, false, false, false, false, false, false, false, false, false, false, false, false, false, false] ?_
          refine pu_ HT_ 11 (some 31) #[true, true, true, true, true, false, true, true, true, false, false, true, false, false, false, false, false, false, false, false, false, false, false, false] ?_
          refine pu_ HT_ 12 (some 32) #[true, true, true, true, true, false, true, true, true, false, false, true, true, false, false, false, false, false, false, false, false, false, false, false] ?_
          refine pu_ HT_ 13 (some 33) #[true, true, true, true, true, false, true, true, true, false, false, true, true, true, false, false, false, false, false, false, false, false, false, false] ?_
          refine pu_ HT_ 15 (some 35) #[true, true, true, true, true, false, true, true, true, false, false, true, true, true, false, true, false, false, false, false, false, false, false, false] ?_
          refine pu_ HT_ 16 (some 36) #[true, true, true, true, true, false, true, true, true, false, false, true, true, true, false, true, true, false, false, false, false, false, false, false] ?_
          refine pu_ HT_ 17 (some 37) #[true, true, true, true, true, false, true, true, true, false, false, true, true, true, false, true, true, true, false, false, false, false, false, false] ?_
          refine pu_ HT_ 21 (some 41) #[true, true, true, true, true, false, true, true, true, false, false, true, true, true, false, true, true, true, false, false, false, true, false, false] ?_
          refine ta_ HT_ HW_ 5 (some 25) #[true, true, true, true, true, true, true, true, true, false, false, true, true, true, false, true, true, true, false, false, false, true, false, false] hHeld ?_ (hy := by rintro w' ⟨s0, s1, s2, s3, s4, s5, s6, s7⟩; go_simp; with_reducible rfl)
          refine ta_ HT_ HW_ 9 (some 29) #[true, true, true, true, true, true, true, true, true, true, false, true, true, true, false, true, true, true, false, false, false, true, false, false] hHeld ?_ (hy := by rintro w' ⟨s0, s1, s2, s3, s4, s5, s6, s7⟩; go_simp; with_reducible rfl)
          refine pu_ HT_ 10 (some 30) #[true, true, true, true, true, true, true, true, true, true, true, true, true, true, false, true, true, true, false, false, false, true, false, false] ?_
          refine ta_ HT_ HW_ 14 (some 34) #[true, true, true, true, true, true, true, true, true, true, true, true, true, true, true, true, true, true, false, false, false, true, false, false] hHeld ?_ (hy := by rintro w' ⟨s0, s1, s2, s3, s4, s5, s6, s7⟩; go_simp; with_reducible rfl)
          refine ta_ HT_ HW_ 18 (some 38) #[true, true, true, true, true, true, true, true, true, true, true, true, true, true, true, true, true, true, true, false, false, true, false, false] hHeld ?_ (hy := by rintro w' ⟨s0, s1, s2, s3, s4, s5, s6, s7⟩; go_simp; with_reducible rfl)
          refine pu_ HT_ 19 (some 39) #[true, true, true, true, true, true, true, true, true, true, true, true, true, true, true, true, true, true, true, true, false, true, false, false] ?_
          refine pu_ HT_ 20 (some 40) #[true, true, true, true, true, true, true, true, true, true, true, true, true, true, true, true, true, true, true, true, true, true, false, false] ?_
          refine pu_ HT_ 22 (some 42) #[true, true, true, true, true, true, true, true, true, true, true, true, true, true, true, true, true, true, true, true, true, true, true, false] ?_
          refine one_ (i := 23) (N := none) #[true, true, true, true, true, true, true, true, true, true, true, true, true, true, true, true, true, true, true, true, true, true, true, true] rfl rfl (one_of HT_.out (by kernel_rfl)) (by decide) (fun K hK => ?_)
          have hs23 : w22.cell? ⟨gb204, 2, none⟩ = some (.int .i64 x205002_2) := (blk_cell BK204.out 2).trans rfl
          have hfs23 := blk_frozen BK204.out 2
          have hns23_0 := NB201_204.out
          have hns23_1 := NB202_204.out
          have hns23_2 := NB203_204.out
          have hms23_0 := NB204_201.out
          have hms23_1 := NB204_202.out
          have hms23_2 := NB204_203.out
          refine skip_ (w1 := ?_) (by rfl) rfl ?_ ?_
          rotate_left
          ·go_simp
           rfl
          refine hK.out _ _ ⟨((cell_far (p := ⟨gb204, _, none⟩) NB201_204.out _).trans (hHeld.1)), ((cell_far (p := ⟨gb204, _, none⟩) NB201_204.out _).trans (hHeld.2.1)), ((cell_far (p := ⟨gb204, _, none⟩) NB201_204.out _).trans (hHeld.2.2.1)), ((cell_far (p := ⟨gb204, _, none⟩) NB201_204.out _).trans (hHeld.2.2.2.1)), ((cell_far (p := ⟨gb204, _, none⟩) NB202_204.out _).trans (hHeld.2.2.2.2.1)), ((cell_far (p := ⟨gb204, _, none⟩) NB202_204.out _).trans (hHeld.2.2.2.2.2.1)), ((cell_far (p := ⟨gb204, _, none⟩) NB202_204.out _).trans (hHeld.2.2.2.2.2.2.1)), ((cell_far (p := ⟨gb204, _, none⟩) NB202_204.out _).trans (hHeld.2.2.2.2.2.2.2))⟩ (fun hHeld => ?_)
          clear hK K
          refine done_ (done_of HT_.out (by kernel_rfl)) ?_
          try go_wp2
          go_roundg k2
          case measure => have := HK1.out; have := HK2.out; omega
          case rel => exact ⟨(wrap64 (0 + 1)), (x205000_2), (x205001_2), (wrap64 ((wrap64 (a0_2 * a1_0)) + (wrap64 (a0_3 * a1_2)))), (x205003_2), (by first | rfl | (simp; done) | (simp [*]; done) | (simp [wrap64]; done)), H', ⟨by have := HK1.out; have := HK2.out; omega⟩, ⟨by (with_reducible repeat first | apply blk_drewN | apply blk_drew | apply blk_alloc); refine blk_far ?_ NB201_204.out _; (with_reducible repeat first | apply blk_drewN | apply blk_drew | apply blk_alloc); exact BK201.out⟩, ⟨by (with_reducible repeat first | apply blk_drewN | apply blk_drew | apply blk_alloc); refine blk_far ?_ NB202_204.out _; (with_reducible repeat first | apply blk_drewN | apply blk_drew | apply blk_alloc); exact BK202.out⟩, ⟨by (with_reducible repeat first | apply blk_drewN | apply blk_drew | apply blk_alloc); refine blk_far ?_ NB203_204.out _; (with_reducible repeat first | apply blk_drewN | apply blk_drew | apply blk_alloc); exact BK203.out⟩, ⟨by (with_reducible repeat first | apply blk_drewN | apply blk_drew | apply blk_alloc); refine blk_put (cs := #[.int .i64 x205000_2, .int .i64 x205001_2, .int .i64 x205002_2, .int .i64 x205003_2]) ?_ 2 _ rfl; (with_reducible repeat first | apply blk_drewN | apply blk_drew | apply blk_alloc); exact BK204.out⟩, bw_ HB⟩
         ·rw [if_neg c21] at H
          have c21b0 : (x8_2 == 0) = false := beq_eq_false_iff_ne.mpr c21
          have c21b1 : (x8_2 != 0) = true := bne_iff_ne.mpr c21
          by_cases c24 : x8_2 = 1
          ·subst c24
           have H1 : (spec_l04Times.l1 k2 1 (wrap64 (1 + 1)) a0_0 a0_1 a0_2 a0_3 a1_0 a1_1 a1_2 a1_3 x205000_2 x205001_2 x205002_2 (wrap64 ((wrap64 (a0_2 * a1_1)) + (wrap64 (a0_3 * a1_3))))) = some (r1, r2, r3, r4, r5) := by rw [if_pos rfl] at H; exact H
           clear H
           have H := H1
           clear H1
           have H' := Aside0.mk H
           clear H
           try go_wp2
           replace BK201 := Aside0.mk (blk_drew BK201.out)
           replace BK202 := Aside0.mk (blk_drew BK202.out)
           replace BK203 := Aside0.mk (blk_drew BK203.out)
           replace BK204 := Aside0.mk (blk_drew BK204.out)
           replace HB := Aside0.mk (below_drew1 HB.out)
           refine start_ (n := 24) (S := fun w' => w'.cell? ⟨gb201, 0, none⟩ = some (.int .i64 a0_0) ∧ w'.cell? ⟨gb201, 1, none⟩ = some (.int .i64 a0_1) ∧ w'.cell? ⟨gb201, 2, none⟩ = some (.int .i64 a0_2) ∧ w'.cell? ⟨gb201, 3, none⟩ = some (.int .i64 a0_3) ∧ w'.cell? ⟨gb202, 0, none⟩ = some (.int .i64 a1_0) ∧ w'.cell? ⟨gb202, 1, none⟩ = some (.int .i64 a1_1) ∧ w'.cell? ⟨gb202, 2, none⟩ = some (.int .i64 a1_2) ∧ w'.cell? ⟨gb202, 3, none⟩ = some (.int .i64 a1_3)) (ds := []) #[false, false, false, false, false, false, false, false, false, false, false, false, false, false, false, false, false, false, false, false, false, false, false, false] (by kernel_rfl) rfl rfl ⟨(blk_cell BK201.out 0).trans rfl, (blk_cell BK201.out 1).trans rfl, (blk_cell BK201.out 2).trans rfl, (blk_cell BK201.out 3).trans rfl, (blk_cell BK202.out 0).trans rfl, (blk_cell BK202.out 1).trans rfl, (blk_cell BK202.out 2).trans rfl, (blk_cell BK202.out 3).trans rfl⟩ (fun hHeld => ?_); refine with_tabW spec_l04Times.tab8 spec_l04Times.bits8 (fun HT_ HW_ => ?_)
           generalize wr.drew = w25 at BK201 BK202 BK203 BK204 HB hHeld ⊢
           refine pu_ HT_ 0 (some 20) #[true, false, false, false, false, false, false, false, false, false, false, false, false, false, false, false, false, false, false, false, false, false, false, false] ?_
           refine pu_ HT_ 1 (some 21) #[true, true, false, false, false, false, false, false, false, false, false, false, false, false, false, false, false, false, false, false, false, false, false, false] ?_
           refine pu_ HT_ 2 (some 22) #[true, true, true, false, false, false, false, false, false, false, false, false, false, false, false, false, false, false, false, false, false, false, false, false] ?_
           refine pu_ HT_ 3 (some 23) #[true, true, true, true, false, false, false, false, false, false, false, false, false, false, false, false, false, false, false, false, false, false, false, false] ?_
           refine pu_ HT_ 4 (some 24) #[true, true, true, true, true, false, false, false, false, false, false, false, false, false, false, false, false, false, false, false, false, false, false, false] ?_
           refine pu_ HT_ 6 (some 26) #[true, true, true, true, true, false, true, false, false, false, false, false, false, false, false, false, false, false, false, false, false, false, false, false] ?_
           refine pu_ HT_ 7 (some 27) #[true, true, true, true, true, false, true, true, false, false, false, false, false, false, false, false, false, false, false, false, false, false, false, false] ?_
           refine pu_ HT_ 8 (some 28) #[true, true, true, true, true, false, true, true, true, false, false, false, false, false, false, false, false, false, false, false, false, false, false, false] ?_
           refine pu_ HT_ 11 (some 31) #[true, true, true, true, true, false, true, true, true, false, false, true, false, false, false, false, false, false, false, false, false, false, false, false] ?_
           refine pu_ HT_ 12 (some 32) #[true, true, true, true, true, false, true, true, true, false, false, true, true, false, false, false, false, false, false, false, false, false, false, false] ?_
           refine pu_ HT_ 13 (some 33) #[true, true, true, true, true, false, true, true, true, false, false, true, true, true, false, false, false, false, false, false, false, false, false, false] ?_
           refine pu_ HT_ 15 (some 35) #[true, true, true, true, true, false, true, true, true, false, false, true, true, true, false, true, false, false, false, false, false, false, false, false] ?_
           refine pu_ HT_ 16 (some 36) #[true, true, true, true, true, false, true, true, true, false, false, true, true, true, false, true, true, false, false, false, false, false, false, false] ?_
           refine pu_ HT_ 17 (some 37) #[true, true, true, true, true, false, true, true, true, false, false, true, true, true, false, true, true, true, false, false, false, false, false, false] ?_
           refine pu_ HT_ 21 (some 41) #[true, true, true, true, true, false, true, true, true, false, false, true, true, true, false, true, true, true, false, false, false, true, false, false] ?_
           refine ta_ HT_ HW_ 5 (some 25) #[true, true, true, true, true, true, true, true, true, false, false, true, true, true, false, true, true, true, false, false, false, true, false, false] hHeld ?_ (hy := by rintro w' ⟨s0, s1, s2, s3, s4, s5, s6, s7⟩; go_simp; with_reducible rfl)
           refine ta_ HT_ HW_ 9 (some 29) #[true, true, true, true, true, true, true, true, true, true, false, true, true, true, false, true, true, true, false, false, false, true, false, false] hHeld ?_ (hy := by rintro w' ⟨s0, s1, s2, s3, s4, s5, s6, s7⟩; go_simp; with_reducible rfl)
           refine pu_ HT_ 10 (some 30) #[true, true, true, true, true, true, true, true, true, true, true, true, true, true, false, true, true, true, false, false, false, true, false, false] ?_
           refine ta_ HT_ HW_ 14 (some 34) #[true, true, true, true, true, true, true, true, true, true, true, true, true, true, true, true, true, true, false, false, false, true, false, false] hHeld ?_ (hy := by rintro w' ⟨s0, s1, s2, s3, s4, s5, s6, s7⟩; go_simp; with_reducible rfl)
           refine ta_ HT_ HW_ 18 (some 38) #[true, true, true, true, true, true, true, true, true, true, true, true, true, true, true, true, true, true, true, false, false, true, false, false] hHeld ?_ (hy := by rintro w' ⟨s0, s1, s2, s3, s4, s5, s6, s7⟩; go_simp; with_reducible rfl)
           refine pu_ HT_ 19 (some 39) #[true, true, true, true, true, true, true, true, true, true, true, true, true, true, true, true, true, true, true, true, false, true, false, false] ?_
           refine pu_ HT_ 20 (some 40) #[true, true, true, true, true, true, true, true, true, true, true, true, true, true, true, true, true, true, true, true, true, true, false, false] ?_
           refine pu_ HT_ 22 (some 42) #[true, true, true, true, true, true, true, true, true, true, true, true, true, true, true, true, true, true, true, true, true, true, true, false] ?_
           refine one_ (i := 23) (N := none) #[true, true, true, true, true, true, true, true, true, true, true, true, true, true, true, true, true, true, true, true, true, true, true, true] rfl rfl (one_of HT_.out (by kernel_rfl)) (by decide) (fun K hK => ?_)
           have hs26 : w25.cell? ⟨gb204, 3, none⟩ = some (.int .i64 x205003_2) := (blk_cell BK204.out 3).trans rfl
           have hfs26 := blk_frozen BK204.out 3
           have hns26_0 := NB201_204.out
           have hns26_1 := NB202_204.out
           have hns26_2 := NB203_204.out
           have hms26_0 := NB204_201.out
           have hms26_1 := NB204_202.out
           have hms26_2 := NB204_203.out
           refine skip_ (w1 := ?_) (by rfl) rfl ?_ ?_
           rotate_left
           ·go_simp
            rfl
           refine hK.out _ _ ⟨((cell_far (p := ⟨gb204, _, none⟩) NB201_204.out _).trans (hHeld.1)), ((cell_far (p := ⟨gb204, _, none⟩) NB201_204.out _).trans (hHeld.2.1)), ((cell_far (p := ⟨gb204, _, none⟩) NB201_204.out _).trans (hHeld.2.2.1)), ((cell_far (p := ⟨gb204, _, none⟩) NB201_204.out _).trans (hHeld.2.2.2.1)), ((cell_far (p := ⟨gb204, _, none⟩) NB202_204.out _).trans (hHeld.2.2.2.2.1)), ((cell_far (p := ⟨gb204, _, none⟩) NB202_204.out _).trans (hHeld.2.2.2.2.2.1)), ((cell_far (p := ⟨gb204, _, none⟩) NB202_204.out _).trans (hHeld.2.2.2.2.2.2.1)), ((cell_far (p := ⟨gb204, _, none⟩) NB202_204.out _).trans (hHeld.2.2.2.2.2.2.2))⟩ (fun hHeld => ?_)
           clear hK K
           refine done_ (done_of HT_.out (by kernel_rfl)) ?_
           try go_wp2
           go_roundg k2
           case measure => have := HK1.out; have := HK2.out; omega
           case rel => exact ⟨(wrap64 (1 + 1)), (x205000_2), (x205001_2), (x205002_2), (wrap64 ((wrap64 (a0_2 * a1_1)) + (wrap64 (a0_3 * a1_3)))), (by first | rfl | (simp; done) | (simp [*]; done) | (simp [wrap64]; done)), H', ⟨by have := HK1.out; have := HK2.out; omega⟩, ⟨by (with_reducible repeat first | apply blk_drewN | apply blk_drew | apply blk_alloc); refine blk_far ?_ NB201_204.out _; (with_reducible repeat first | apply blk_drewN | apply blk_drew | apply blk_alloc); exact BK201.out⟩, ⟨by (with_reducible repeat first | apply blk_drewN | apply blk_drew | apply blk_alloc); refine blk_far ?_ NB202_204.out _; (with_reducible repeat first | apply blk_drewN | apply blk_drew | apply blk_alloc); exact BK202.out⟩, ⟨by (with_reducible repeat first | apply blk_drewN | apply blk_drew | apply blk_alloc); refine blk_far ?_ NB203_204.out _; (with_reducible repeat first | apply blk_drewN | apply blk_drew | apply blk_alloc); exact BK203.out⟩, ⟨by (with_reducible repeat first | apply blk_drewN | apply blk_drew | apply blk_alloc); refine blk_put (cs := #[.int .i64 x205000_2, .int .i64 x205001_2, .int .i64 x205002_2, .int .i64 x205003_2]) ?_ 3 _ rfl; (with_reducible repeat first | apply blk_drewN | apply blk_drew | apply blk_alloc); exact BK204.out⟩, bw_ HB⟩
          ·rw [if_neg c24] at H
           exact absurd H (by simp)
        ·rw [if_neg c20] at H
         exact absurd H (by simp)
      ·rw [if_neg c12] at H
       have c12b0 : decide (x8_2 < 2) = false := decide_eq_false c12
       clear c12
       have H' := Aside0.mk H
       clear H
       go_wp2
       go_roundg k2
       case measure => have := HK1.out; have := HK2.out; omega
       case rel => exact ⟨(wrap64 (x7_1 + 1)), (x205000_2), (x205001_2), (x205002_2), (x205003_2), (by first | rfl | (simp; done) | (simp [*]; done) | (simp [wrap64]; done)), H', ⟨by have := HK1.out; have := HK2.out; omega⟩, bl_ BK201, bl_ BK202, bl_ BK203, bl_ BK204, bw_ HB⟩
   ·rw [if_neg c11] at H
    have c11b0 : decide (x7_1 < 2) = false := decide_eq_false c11
    clear c11
    replace H := Option.bind_eq_some_iff.mp H
    obtain ⟨⟨t205, t206, t207, t208, t209⟩, A270, H⟩ := H
    have A27 := Aside0.mk A270
    clear A270
    simp only [Option.some.injEq, Prod.mk.injEq] at H
    obtain ⟨rfl, rfl, rfl, rfl, rfl⟩ := H
    have hnb28 := NB204_201.out
    have hnc28 := NB201_204.out
    have hnb29 := NB204_202.out
    have hnc29 := NB202_204.out
    have hnb30 := NB204_203.out
    have hnc30 := NB203_204.out
    have hcz31_0 : wr.cell? ⟨gb204, 0, none⟩ = some (.int .i64 x205000_1) := (blk_cell BK204.out 0).trans rfl
    have hcz31_1 : wr.cell? ⟨gb204, 1, none⟩ = some (.int .i64 x205001_1) := (blk_cell BK204.out 1).trans rfl
    have hcz31_2 : wr.cell? ⟨gb204, 2, none⟩ = some (.int .i64 x205002_1) := (blk_cell BK204.out 2).trans rfl
    have hcz31_3 : wr.cell? ⟨gb204, 3, none⟩ = some (.int .i64 x205003_1) := (blk_cell BK204.out 3).trans rfl
    have hfz31_0 := blk_frozen BK204.out 0
    have hfz31_1 := blk_frozen BK204.out 1
    have hfz31_2 := blk_frozen BK204.out 2
    have hfz31_3 := blk_frozen BK204.out 3
    go_wp2_with (first | ((with_reducible refine gate_callee (f := 84) rfl ?_); refine goesL_ (some 45) rfl rfl Try.func84 (by kernel_rfl) rfl #[.agg #[.int .i64 x205000_1, .int .i64 x205001_1, .int .i64 x205002_1, .int .i64 x205003_1]] rfl (by (try simp only [List.map_toArray, List.map_cons, List.map_nil]); first | done | rfl | (simp only [List.length_drop, List.length_take]; rfl)) ?_; (with_reducible refine (spec_l04Reduce.calls k1 x205000_1 x205001_1 x205002_1 x205003_1 t205 t206 t207 t208 t209 _ A27.out).mono ?_); rintro e w32 ⟨rfl, hb⟩; refine ⟨_, rfl, ?_⟩; replace BK201 := bb_ BK201 hb; replace BK202 := bb_ BK202 hb; replace BK203 := bb_ BK203 hb; replace BK204 := bb_ BK204 hb; replace HB := bt_ HB hb; (try clear hb); (try clear hb2); (try clear hk); (try clear hi)) | ((with_reducible refine gate_dst (N := 9) rfl ?_); refine bx_ 9 #[.int .i64 0, .int .i64 0, .int .i64 0, .int .i64 0] 33 ?_; intro gb210 hg w33 hbox hb; have BK210 := Aside0.mk (hbox); have GW210 := bs_ HB hg; have GE210 := bs_ HB hg; have NB201_210 := bm_ BK201 hg; have NB210_201 := bn_ BK201 hg; have NB202_210 := bm_ BK202 hg; have NB210_202 := bn_ BK202 hg; have NB203_210 := bm_ BK203 hg; have NB210_203 := bn_ BK203 hg; have NB204_210 := bm_ BK204 hg; have NB210_204 := bn_ BK204 hg; replace BK201 := bb_ BK201 hb; replace BK202 := bb_ BK202 hb; replace BK203 := bb_ BK203 hb; replace BK204 := bb_ BK204 hb; replace HB := bt_ HB hb; clear hb hbox hg; have hnb34 := NB210_201.out; have hnc34 := NB201_210.out; have hnb35 := NB210_202.out; have hnc35 := NB202_210.out; have hnb36 := NB210_203.out; have hnc36 := NB203_210.out; have hnb37 := NB210_204.out; have hnc37 := NB204_210.out; have hcz38_0 : w33.cell? ⟨gb210, 0, none⟩ = some (.int .i64 0) := (blk_cell BK210.out 0).trans rfl; have hcz38_1 : w33.cell? ⟨gb210, 1, none⟩ = some (.int .i64 0) := (blk_cell BK210.out 1).trans rfl; have hcz38_2 : w33.cell? ⟨gb210, 2, none⟩ = some (.int .i64 0) := (blk_cell BK210.out 2).trans rfl; have hcz38_3 : w33.cell? ⟨gb210, 3, none⟩ = some (.int .i64 0) := (blk_cell BK210.out 3).trans rfl; have hfz38_0 := blk_frozen BK210.out 0; have hfz38_1 := blk_frozen BK210.out 1; have hfz38_2 := blk_frozen BK210.out 2; have hfz38_3 := blk_frozen BK210.out 3; have hnb39 := NB203_201.out; have hnc39 := NB201_203.out; have hnb40 := NB203_202.out; have hnc40 := NB202_203.out; have hcz41_0 : w33.cell? ⟨gb203, 0, none⟩ = some (.int .i64 0) := (blk_cell BK203.out 0).trans rfl; have hcz41_1 : w33.cell? ⟨gb203, 1, none⟩ = some (.int .i64 0) := (blk_cell BK203.out 1).trans rfl; have hcz41_2 : w33.cell? ⟨gb203, 2, none⟩ = some (.int .i64 0) := (blk_cell BK203.out 2).trans rfl; have hcz41_3 : w33.cell? ⟨gb203, 3, none⟩ = some (.int .i64 0) := (blk_cell BK203.out 3).trans rfl; have hfz41_0 := blk_frozen BK203.out 0; have hfz41_1 := blk_frozen BK203.out 1; have hfz41_2 := blk_frozen BK203.out 2; have hfz41_3 := blk_frozen BK203.out 3))
    refine bodyPost_ret (results_ct rfl _ _ gb203 33 #[.int .i64 t205, .int .i64 t206, .int .i64 t207, .int .i64 t208] (0, 0) _ rfl (by (with_reducible repeat first | apply blk_drewN | apply blk_drew | apply blk_alloc); refine blk_put (cs := #[.int .i64 t205, .int .i64 t206, .int .i64 t207, .int .i64 0]) ?_ 3 _ rfl; (with_reducible repeat first | apply blk_drewN | apply blk_drew | apply blk_alloc); refine blk_put (cs := #[.int .i64 t205, .int .i64 t206, .int .i64 0, .int .i64 0]) ?_ 2 _ rfl; (with_reducible repeat first | apply blk_drewN | apply blk_drew | apply blk_alloc); refine blk_put (cs := #[.int .i64 t205, .int .i64 0, .int .i64 0, .int .i64 0]) ?_ 1 _ rfl; (with_reducible repeat first | apply blk_drewN | apply blk_drew | apply blk_alloc); refine blk_put (cs := #[.int .i64 0, .int .i64 0, .int .i64 0, .int .i64 0]) ?_ 0 _ rfl; (with_reducible repeat first | apply blk_drewN | apply blk_drew | apply blk_alloc); refine blk_far ?_ NB203_210.out _; (with_reducible repeat first | apply blk_drewN | apply blk_drew | apply blk_alloc); refine blk_far ?_ NB203_210.out _; (with_reducible repeat first | apply blk_drewN | apply blk_drew | apply blk_alloc); refine blk_far ?_ NB203_210.out _; (with_reducible repeat first | apply blk_drewN | apply blk_drew | apply blk_alloc); refine blk_far ?_ NB203_210.out _; (with_reducible repeat first | apply blk_drewN | apply blk_drew | apply blk_alloc); exact BK203.out) Try.underlying33 rfl (by kernel_rfl)) rfl ?_
    exact ⟨by first | rfl | (simp [errW_none, errW_some] <;> rfl) | (simp [*, errW_none, errW_some] <;> rfl), by repeat (first | (with_reducible first | exact HB.out | apply below_alloc | apply pw_below_drewN | apply below_drew1 | refine below_set ?_ GE201.out | refine below_set ?_ GE202.out | refine below_set ?_ GE203.out | refine below_set ?_ GE204.out | refine below_set ?_ GE210.out) | exact HB.out)⟩
end Go.Proofs.Ytojpcbbmbnmchaa.QC
