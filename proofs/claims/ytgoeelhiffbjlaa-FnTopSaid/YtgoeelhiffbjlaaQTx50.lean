import Derived.Test.YtgoeelhiffbjlaaQTx10
import Derived.Test.YtgoeelhiffbjlaaQTx49
namespace Go.Proofs.Ytgoeelhiffbjlaa.QT
open Go.RowKit Go.Proofs.YtgoeelhiffbjlaaW.PrintWords Go.Proofs.YtgoeelhiffbjlaaW.PrintLast Go.Proofs.YtgoeelhiffbjlaaW.PrintMore
attribute [local go_sem] isSome_setCell max2_int min2_int max_two min_two max_three min_three max_four min_four
set_option linter.unusedVariables false
set_option linter.unusedSimpArgs false

/-! ### spec_l04Times: function 93 -/
mutual
def spec_l04Times.l0 : Nat → Int → Int → Int → Int → Int → Int → Int → Int → Int → Int → Int → Int → Int → Option (Int × Int × Int × Int × Bool)
 | 0, _, _, _, _, _, _, _, _, _, _, _, _, _ => none
 | k + 1, x7, x326000, x326001, x326002, x326003, x327000, x327001, x327002, x327003, x329000, x329001, x329002, x329003 => if x7 < 2 then (spec_l04Times.l1 k x7 0 x326000 x326001 x326002 x326003 x327000 x327001 x327002 x327003 x329000 x329001 x329002 x329003) else ((spec_l04Reduce.f k x329000 x329001 x329002 x329003).bind fun bt329 => (some (bt329.1, bt329.2.1, bt329.2.2.1, bt329.2.2.2.1, bt329.2.2.2.2)))
def spec_l04Times.l1 : Nat → Int → Int → Int → Int → Int → Int → Int → Int → Int → Int → Int → Int → Int → Int → Option (Int × Int × Int × Int × Bool)
 | 0, _, _, _, _, _, _, _, _, _, _, _, _, _, _ => none
 | k + 1, x7, x8, x326000, x326001, x326002, x326003, x327000, x327001, x327002, x327003, x329000, x329001, x329002, x329003 => if x8 < 2 then (if x7 = 0 then (if x8 = 0 then (spec_l04Times.l1 k x7 (wrap64 (x8 + 1)) x326000 x326001 x326002 x326003 x327000 x327001 x327002 x327003 (wrap64 ((wrap64 (x326000 * x327000)) + (wrap64 (x326001 * x327002)))) x329001 x329002 x329003) else (if x8 = 1 then (spec_l04Times.l1 k x7 (wrap64 (x8 + 1)) x326000 x326001 x326002 x326003 x327000 x327001 x327002 x327003 x329000 (wrap64 ((wrap64 (x326000 * x327001)) + (wrap64 (x326001 * x327003)))) x329002 x329003) else (none))) else (if x7 = 1 then (if x8 = 0 then (spec_l04Times.l1 k x7 (wrap64 (x8 + 1)) x326000 x326001 x326002 x326003 x327000 x327001 x327002 x327003 x329000 x329001 (wrap64 ((wrap64 (x326002 * x327000)) + (wrap64 (x326003 * x327002)))) x329003) else (if x8 = 1 then (spec_l04Times.l1 k x7 (wrap64 (x8 + 1)) x326000 x326001 x326002 x326003 x327000 x327001 x327002 x327003 x329000 x329001 x329002 (wrap64 ((wrap64 (x326002 * x327001)) + (wrap64 (x326003 * x327003))))) else (none))) else (none))) else (spec_l04Times.l0 k (wrap64 (x7 + 1)) x326000 x326001 x326002 x326003 x327000 x327001 x327002 x327003 x329000 x329001 x329002 x329003)
end
def spec_l04Times.f (k : Nat) (a0_0 : Int) (a0_1 : Int) (a0_2 : Int) (a0_3 : Int) (a1_0 : Int) (a1_1 : Int) (a1_2 : Int) (a1_3 : Int) : Option (Int × Int × Int × Int × Bool) := spec_l04Times.l0 k 0 a0_0 a0_1 a0_2 a0_3 a1_0 a1_1 a1_2 a1_3 0 0 0 0
def spec_l04Times.T8 : Bool × List (List Nat × List Nat) := (true, [([], []), ([], []), ([], []), ([2], [2]), ([3], [3]), ([4], [4]), ([], []), ([], []), ([7, 6], [6, 7]), ([8], [8]), ([5, 9], [5, 9]), ([], []), ([11], [11]), ([12], [12]), ([13], [13]), ([], []), ([], []), ([16, 15], [15, 16]), ([17], [17]), ([14, 18], [14, 18]), ([10, 19], [10, 19]), ([0], [0]), ([21, 1, 0, 1, 2, 3, 4, 5, 6, 7, 8, 9, 10, 11, 12, 13, 14, 15, 16, 17, 18, 19, 20], [1, 21]), ([22, 20, 0, 1, 2, 3, 4, 5, 6, 7, 8, 9, 10, 11, 12, 13, 14, 15, 16, 17, 18, 19, 20], [20, 22])])
def spec_l04Times.B8 : List Nat := [0, 0, 0, 4, 12, 28, 0, 0, 192, 448, 1020, 0, 2048, 6144, 14336, 0, 0, 98304, 229376, 522240, 1048572, 1, 4194303, 8388607]
theorem spec_l04Times.tab8 : rtab .any (opsOf Try.f93 8) = spec_l04Times.T8 := by kernel_rfl
theorem spec_l04Times.bits8 : waitsOk spec_l04Times.T8.2 spec_l04Times.B8 = true := by kernel_rfl
set_option maxHeartbeats 8000000 in
set_option maxRecDepth 100000 in
theorem spec_l04Times.calls (k : Nat) (a0_0 : Int) (a0_1 : Int) (a0_2 : Int) (a0_3 : Int) (a1_0 : Int) (a1_1 : Int) (a1_2 : Int) (a1_3 : Int) (r1 : Int) (r2 : Int) (r3 : Int) (r4 : Int) (r5 : Bool) (w : World) (h : spec_l04Times.f k a0_0 a0_1 a0_2 a0_3 a1_0 a1_1 a1_2 a1_3 = some (r1, r2, r3, r4, r5)) :
  Calls Try.prog 93 #[.agg #[.int .i64 a0_0, .int .i64 a0_1, .int .i64 a0_2, .int .i64 a0_3], .agg #[.int .i64 a1_0, .int .i64 a1_1, .int .i64 a1_2, .int .i64 a1_3]] w fun e w' => e = .returned (.tuple #[.agg #[.int .i64 r1, .int .i64 r2, .int .i64 r3, .int .i64 r4], .bool r5]) ∧ Below w.heap.size w w' := by
 have hu46 := Try.underlying46
 have hu44 := Try.underlying44
 have HB := Aside0.mk (Below.refl w.heap.size w)
 have H : (spec_l04Times.l0 k 0 a0_0 a0_1 a0_2 a0_3 a1_0 a1_1 a1_2 a1_3 0 0 0 0) = some (r1, r2, r3, r4, r5) := h
 clear h
 have H' := Aside0.mk H
 clear H
 go_enter Try.func93, Try.ntmps93
 go_wp2_with (first | ((refine gd_ 2 ?_); refine bx_ 2 #[.int .i64 a0_0, .int .i64 a0_1, .int .i64 a0_2, .int .i64 a0_3] 46 ?_; intro gb325 hg w3 BK325 hb; have GW325 := bs_ HB hg; have GE325 := bs_ HB hg; replace HB := bt_ HB hb; clear hb hg) | ((refine gd_ 3 ?_); refine bx_ 3 #[.int .i64 a1_0, .int .i64 a1_1, .int .i64 a1_2, .int .i64 a1_3] 46 ?_; intro gb326 hg w4 BK326 hb; have GW326 := bs_ HB hg; have GE326 := bs_ HB hg; have NB325_326 := bm_ BK325 hg; have NB326_325 := bn_ BK325 hg; replace BK325 := bb_ BK325 hb; replace HB := bt_ HB hb; clear hb hg) | ((refine gd_ 4 ?_); refine bx_ 4 #[.int .i64 0, .int .i64 0, .int .i64 0, .int .i64 0] 46 ?_; intro gb327 hg w5 BK327 hb; have GW327 := bs_ HB hg; have GE327 := bs_ HB hg; have NB325_327 := bm_ BK325 hg; have NB327_325 := bn_ BK325 hg; have NB326_327 := bm_ BK326 hg; have NB327_326 := bn_ BK326 hg; replace BK325 := bb_ BK325 hb; replace BK326 := bb_ BK326 hb; replace HB := bt_ HB hb; clear hb hg) | ((refine gd_ 6 ?_); refine bx_ 6 #[.int .i64 0, .int .i64 0, .int .i64 0, .int .i64 0] 46 ?_; intro gb328 hg w6 BK328 hb; have GW328 := bs_ HB hg; have GE328 := bs_ HB hg; have NB325_328 := bm_ BK325 hg; have NB328_325 := bn_ BK325 hg; have NB326_328 := bm_ BK326 hg; have NB328_326 := bn_ BK326 hg; have NB327_328 := bm_ BK327 hg; have NB328_327 := bn_ BK327 hg; replace BK325 := bb_ BK325 hb; replace BK326 := bb_ BK326 hb; replace BK327 := bb_ BK327 hb; replace HB := bt_ HB hb; clear hb hg; have hnb7 := NB328_325.out; have hnc7 := NB325_328.out; have hnb8 := NB328_326.out; have hnc8 := NB326_328.out; have hnb9 := NB328_327.out; have hnc9 := NB327_328.out; obtain ⟨hcz10_0, hcz10_1, hcz10_2, hcz10_3, hfz10_0, hfz10_1, hfz10_2, hfz10_3⟩ := ch4_ BK328))
 go_loopg [7] k (fun kq v7 w' => ∃ (x7_1 : Int) (x329000_1 : Int) (x329001_1 : Int) (x329002_1 : Int) (x329003_1 : Int), v7 = .int .i64 x7_1 ∧ Aside0 (spec_l04Times.l0 kq x7_1 a0_0 a0_1 a0_2 a0_3 a1_0 a1_1 a1_2 a1_3 x329000_1 x329001_1 x329002_1 x329003_1 = some (r1, r2, r3, r4, r5)) ∧ Aside0 (kq ≤ k) ∧ Aside0 (w'.heap[gb325]? = some (.cells #[.int .i64 a0_0, .int .i64 a0_1, .int .i64 a0_2, .int .i64 a0_3] 46 (0, 0))) ∧ Aside0 (w'.heap[gb326]? = some (.cells #[.int .i64 a1_0, .int .i64 a1_1, .int .i64 a1_2, .int .i64 a1_3] 46 (0, 0))) ∧ Aside0 (w'.heap[gb327]? = some (.cells #[.int .i64 0, .int .i64 0, .int .i64 0, .int .i64 0] 46 (0, 0))) ∧ Aside0 (w'.heap[gb328]? = some (.cells #[.int .i64 x329000_1, .int .i64 x329001_1, .int .i64 x329002_1, .int .i64 x329003_1] 46 (0, 0))) ∧ Aside0 (Below w.heap.size w w'))
 case atStart => exact ⟨(0), (0), (0), (0), (0), en_, H', ⟨Nat.le_refl _⟩, fl_ BK325 NB325_328, fl_ BK326 NB326_328, fl_ BK327 NB327_328, bp_ BK328, bw_ HB⟩
 case round =>
  clear H'
  try clear p2
  try clear c7
  try clear c8
  try clear c9
  try clear hcz10_0 hcz10_1 hcz10_2 hcz10_3
  try clear hfz10_0 hfz10_1 hfz10_2 hfz10_3
  obtain ⟨x7_1, x329000_1, x329001_1, x329002_1, x329003_1, rfl, HA, HK1, BK325, BK326, BK327, BK328, HB⟩ := hrel
  cases gk with
  | zero => exact absurd HA.out (by simp [spec_l04Times.l0])
  | succ k1 =>
   have H := HA.out
   clear HA
   simp only [spec_l04Times.l0] at H
   by_cases c11 : x7_1 < 2
   ·rw [if_pos c11] at H
    have c11b0 : decide (x7_1 < 2) = true := decide_eq_true c11
    clear c11
    have H' := Aside0.mk H
    clear H
    go_wp2
    go_loopg [8] k1 (fun kq v8 w' => ∃ (x8_2 : Int) (x329000_2 : Int) (x329001_2 : Int) (x329002_2 : Int) (x329003_2 : Int), v8 = .int .i64 x8_2 ∧ Aside0 (spec_l04Times.l1 kq x7_1 x8_2 a0_0 a0_1 a0_2 a0_3 a1_0 a1_1 a1_2 a1_3 x329000_2 x329001_2 x329002_2 x329003_2 = some (r1, r2, r3, r4, r5)) ∧ Aside0 (kq ≤ k1) ∧ Aside0 (w'.heap[gb325]? = some (.cells #[.int .i64 a0_0, .int .i64 a0_1, .int .i64 a0_2, .int .i64 a0_3] 46 (0, 0))) ∧ Aside0 (w'.heap[gb326]? = some (.cells #[.int .i64 a1_0, .int .i64 a1_1, .int .i64 a1_2, .int .i64 a1_3] 46 (0, 0))) ∧ Aside0 (w'.heap[gb327]? = some (.cells #[.int .i64 0, .int .i64 0, .int .i64 0, .int .i64 0] 46 (0, 0))) ∧ Aside0 (w'.heap[gb328]? = some (.cells #[.int .i64 x329000_2, .int .i64 x329001_2, .int .i64 x329002_2, .int .i64 x329003_2] 46 (0, 0))) ∧ Aside0 (Below w.heap.size w w'))
    case atStart => exact ⟨(0), (x329000_1), (x329001_1), (x329002_1), (x329003_1), en_, H', ⟨Nat.le_refl _⟩, bl_ BK325, bl_ BK326, bl_ BK327, bl_ BK328, bw_ HB⟩
    case round =>
     clear H'
     try clear c1
     try clear p2
     try clear c7
     try clear c8
     try clear c9
     try clear c11
     try clear c11b0
     try clear hcz10_0 hcz10_1 hcz10_2 hcz10_3
     try clear hfz10_0 hfz10_1 hfz10_2 hfz10_3
     try clear p2
     obtain ⟨x8_2, x329000_2, x329001_2, x329002_2, x329003_2, rfl, HA, HK2, BK325, BK326, BK327, BK328, HB⟩ := hrel
     cases gk with
     | zero => exact absurd HA.out (by simp [spec_l04Times.l1])
     | succ k2 =>
      have H := HA.out
      clear HA
      simp only [spec_l04Times.l1] at H
      by_cases c12 : x8_2 < 2
      ·rw [if_pos c12] at H
       have c12b0 : decide (x8_2 < 2) = true := decide_eq_true c12
       clear c12
       by_cases c13 : x7_1 = 0
       ·subst c13
        have H1 : (if x8_2 = 0 then (spec_l04Times.l1 k2 0 (wrap64 (x8_2 + 1)) a0_0 a0_1 a0_2 a0_3 a1_0 a1_1 a1_2 a1_3 (wrap64 ((wrap64 (a0_0 * a1_0)) + (wrap64 (a0_1 * a1_2)))) x329001_2 x329002_2 x329003_2) else (if x8_2 = 1 then (spec_l04Times.l1 k2 0 (wrap64 (x8_2 + 1)) a0_0 a0_1 a0_2 a0_3 a1_0 a1_1 a1_2 a1_3 x329000_2 (wrap64 ((wrap64 (a0_0 * a1_1)) + (wrap64 (a0_1 * a1_3)))) x329002_2 x329003_2) else (none))) = some (r1, r2, r3, r4, r5) := by rw [if_pos rfl] at H; exact H
        clear H
        have H := H1
        clear H1
        by_cases c14 : x8_2 = 0
        ·subst c14
         have H1 : (spec_l04Times.l1 k2 0 (wrap64 (0 + 1)) a0_0 a0_1 a0_2 a0_3 a1_0 a1_1 a1_2 a1_3 (wrap64 ((wrap64 (a0_0 * a1_0)) + (wrap64 (a0_1 * a1_2)))) x329001_2 x329002_2 x329003_2) = some (r1, r2, r3, r4, r5) := by rw [if_pos rfl] at H; exact H
         clear H
         have H := H1
         clear H1
         have H' := Aside0.mk H
         clear H
         try go_wp2
         replace BK325 := Aside0.mk (blk_drew BK325.out)
         replace BK326 := Aside0.mk (blk_drew BK326.out)
         replace BK327 := Aside0.mk (blk_drew BK327.out)
         replace BK328 := Aside0.mk (blk_drew BK328.out)
         replace HB := Aside0.mk (below_drew1 HB.out)
         refine start_ (n := 24) (S := fun w' => w'.cell? ⟨gb325, 0, none⟩ = some (.int .i64 a0_0) ∧ w'.cell? ⟨gb325, 1, none⟩ = some (.int .i64 a0_1) ∧ w'.cell? ⟨gb325, 2, none⟩ = some (.int .i64 a0_2) ∧ w'.cell? ⟨gb325, 3, none⟩ = some (.int .i64 a0_3) ∧ w'.cell? ⟨gb326, 0, none⟩ = some (.int .i64 a1_0) ∧ w'.cell? ⟨gb326, 1, none⟩ = some (.int .i64 a1_1) ∧ w'.cell? ⟨gb326, 2, none⟩ = some (.int .i64 a1_2) ∧ w'.cell? ⟨gb326, 3, none⟩ = some (.int .i64 a1_3)) (ds := []) (bv_ 24 0) (by kernel_rfl) rfl rfl ⟨cz_ BK325 0, cz_ BK325 1, cz_ BK325 2, cz_ BK325 3, cz_ BK326 0, cz_ BK326 1, cz_ BK326 2, cz_ BK326 3⟩ (fun hHeld => ?_); refine with_tabW spec_l04Times.tab8 spec_l04Times.bits8 (fun HT_ HW_ => ?_)
         generalize wr.drew = w15 at BK325 BK326 BK327 BK328 HB hHeld ⊢
         refine px_ HT_ 0 20 1 ?_
         refine px_ HT_ 1 21 3 ?_
         refine px_ HT_ 2 22 7 ?_
         refine px_ HT_ 3 23 15 ?_
         refine px_ HT_ 4 24 31 ?_
         refine px_ HT_ 6 26 95 ?_
         refine px_ HT_ 7 27 223 ?_
         refine px_ HT_ 8 28 479 ?_
         refine px_ HT_ 11 31 2527 ?_
         refine px_ HT_ 12 32 6623 ?_
         refine px_ HT_ 13 33 14815 ?_
         refine px_ HT_ 15 35 47583 ?_
         refine px_ HT_ 16 36 113119 ?_
         refine px_ HT_ 17 37 244191 ?_
         refine px_ HT_ 21 41 2341343 ?_
         refine ta_ HT_ HW_ 5 (some 25) (bv_ 24 2341375) hHeld ?_ (hy := by rintro w' ⟨s0, s1, s2, s3, s4, s5, s6, s7⟩; go_simp; with_reducible rfl)
         refine ta_ HT_ HW_ 9 (some 29) (bv_ 24 2341887) hHeld ?_ (hy := by rintro w' ⟨s0, s1, s2, s3, s4, s5, s6, s7⟩; go_simp; with_reducible rfl)
         refine px_ HT_ 10 30 2342911 ?_
         refine ta_ HT_ HW_ 14 (some 34) (bv_ 24 2359295) hHeld ?_ (hy := by rintro w' ⟨s0, s1, s2, s3, s4, s5, s6, s7⟩; go_simp; with_reducible rfl)
         refine ta_ HT_ HW_ 18 (some 38) (bv_ 24 2621439) hHeld ?_ (hy := by rintro w' ⟨s0, s1, s2, s3, s4, s5, s6, s7⟩; go_simp; with_reducible rfl)
         refine px_ HT_ 19 39 3145727 ?_
         refine px_ HT_ 20 40 4194303 ?_
         refine px_ HT_ 22 42 8388607 ?_
         refine on_ HT_ 23 none (bv_ 24 16777215) (fun K hK => ?_)
         have hs16 : w15.cell? ⟨gb328, 0, none⟩ = some (.int .i64 x329000_2) := (blk_cell BK328.out 0).trans rfl
         have hfs16 := blk_frozen BK328.out 0
         have hns16_0 := NB325_328.out
         have hns16_1 := NB326_328.out
         have hns16_2 := NB327_328.out
         have hms16_0 := NB328_325.out
         have hms16_1 := NB328_326.out
         have hms16_2 := NB328_327.out
         refine skip_ (w1 := ?_) (by rfl) rfl ?_ ?_
         rotate_left
         ·go_simp
          rfl
         refine hK.out _ _ ⟨(cg_ NB325_328 (hHeld.1)), (cg_ NB325_328 (hHeld.2.1)), (cg_ NB325_328 (hHeld.2.2.1)), (cg_ NB325_328 (hHeld.2.2.2.1)), (cg_ NB326_328 (hHeld.2.2.2.2.1)), (cg_ NB326_328 (hHeld.2.2.2.2.2.1)), (cg_ NB326_328 (hHeld.2.2.2.2.2.2.1)), (cg_ NB326_328 (hHeld.2.2.2.2.2.2.2))⟩ (fun hHeld => ?_)
         clear hK K
         refine done_ (done_of HT_.out (by kernel_rfl)) ?_
         try go_wp2
         go_roundg k2
         case measure => have := HK1.out; have := HK2.out; omega
         case rel => exact ⟨(wrap64 (0 + 1)), (wrap64 ((wrap64 (a0_0 * a1_0)) + (wrap64 (a0_1 * a1_2)))), (x329001_2), (x329002_2), (x329003_2), en_, H', ⟨by have := HK1.out; have := HK2.out; omega⟩, fl_ BK325 NB325_328, fl_ BK326 NB326_328, fl_ BK327 NB327_328, bp_ BK328, bw_ HB⟩
        ·rw [if_neg c14] at H
         have c14b0 : (x8_2 == 0) = false := beq_eq_false_iff_ne.mpr c14
         have c14b1 : (x8_2 != 0) = true := bne_iff_ne.mpr c14
         by_cases c17 : x8_2 = 1
         ·subst c17
          have H1 : (spec_l04Times.l1 k2 0 (wrap64 (1 + 1)) a0_0 a0_1 a0_2 a0_3 a1_0 a1_1 a1_2 a1_3 x329000_2 (wrap64 ((wrap64 (a0_0 * a1_1)) + (wrap64 (a0_1 * a1_3)))) x329002_2 x329003_2) = some (r1, r2, r3, r4, r5) := by rw [if_pos rfl] at H; exact H
          clear H
          have H := H1
          clear H1
          have H' := Aside0.mk H
          clear H
          try go_wp2
          replace BK325 := Aside0.mk (blk_drew BK325.out)
          replace BK326 := Aside0.mk (blk_drew BK326.out)
          replace BK327 := Aside0.mk (blk_drew BK327.out)
          replace BK328 := Aside0.mk (blk_drew BK328.out)
          replace HB := Aside0.mk (below_drew1 HB.out)
          refine start_ (n := 24) (S := fun w' => w'.cell? ⟨gb325, 0, none⟩ = some (.int .i64 a0_0) ∧ w'.cell? ⟨gb325, 1, none⟩ = some (.int .i64 a0_1) ∧ w'.cell? ⟨gb325, 2, none⟩ = some (.int .i64 a0_2) ∧ w'.cell? ⟨gb325, 3, none⟩ = some (.int .i64 a0_3) ∧ w'.cell? ⟨gb326, 0, none⟩ = some (.int .i64 a1_0) ∧ w'.cell? ⟨gb326, 1, none⟩ = some (.int .i64 a1_1) ∧ w'.cell? ⟨gb326, 2, none⟩ = some (.int .i64 a1_2) ∧ w'.cell? ⟨gb326, 3, none⟩ = some (.int .i64 a1_3)) (ds := []) (bv_ 24 0) (by kernel_rfl) rfl rfl ⟨cz_ BK325 0, cz_ BK325 1, cz_ BK325 2, cz_ BK325 3, cz_ BK326 0, cz_ BK326 1, cz_ BK326 2, cz_ BK326 3⟩ (fun hHeld => ?_); refine with_tabW spec_l04Times.tab8 spec_l04Times.bits8 (fun HT_ HW_ => ?_)
          generalize wr.drew = w18 at BK325 BK326 BK327 BK328 HB hHeld ⊢
          refine px_ HT_ 0 20 1 ?_
          refine px_ HT_ 1 21 3 ?_
          refine px_ HT_ 2 22 7 ?_
          refine px_ HT_ 3 23 15 ?_
          refine px_ HT_ 4 24 31 ?_
          refine px_ HT_ 6 26 95 ?_
          refine px_ HT_ 7 27 223 ?_
          refine px_ HT_ 8 28 479 ?_
          refine px_ HT_ 11 31 2527 ?_
          refine px_ HT_ 12 32 6623 ?_
          refine px_ HT_ 13 33 14815 ?_
          refine px_ HT_ 15 35 47583 ?_
          refine px_ HT_ 16 36 113119 ?_
          refine px_ HT_ 17 37 244191 ?_
          refine px_ HT_ 21 41 2341343 ?_
          refine ta_ HT_ HW_ 5 (some 25) (bv_ 24 2341375) hHeld ?_ (hy := by rintro w' ⟨s0, s1, s2, s3, s4, s5, s6, s7⟩; go_simp; with_reducible rfl)
          refine ta_ HT_ HW_ 9 (some 29) (bv_ 24 2341887) hHeld ?_ (hy := by rintro w' ⟨s0, s1, s2, s3, s4, s5, s6, s7⟩; go_simp; with_reducible rfl)
          refine px_ HT_ 10 30 2342911 ?_
          refine ta_ HT_ HW_ 14 (some 34) (bv_ 24 2359295) hHeld ?_ (hy := by rintro w' ⟨s0, s1, s2, s3, s4, s5, s6, s7⟩; go_simp; with_reducible rfl)
          refine ta_ HT_ HW_ 18 (some 38) (bv_ 24 2621439) hHeld ?_ (hy := by rintro w' ⟨s0, s1, s2, s3, s4, s5, s6, s7⟩; go_simp; with_reducible rfl)
          refine px_ HT_ 19 39 3145727 ?_
          refine px_ HT_ 20 40 4194303 ?_
          refine px_ HT_ 22 42 8388607 ?_
          refine on_ HT_ 23 none (bv_ 24 16777215) (fun K hK => ?_)
          have hs19 : w18.cell? ⟨gb328, 1, none⟩ = some (.int .i64 x329001_2) := (blk_cell BK328.out 1).trans rfl
          have hfs19 := blk_frozen BK328.out 1
          have hns19_0 := NB325_328.out
          have hns19_1 := NB326_328.out
          have hns19_2 := NB327_328.out
          have hms19_0 := NB328_325.out
          have hms19_1 := NB328_326.out
          have hms19_2 := NB328_327.out
          refine skip_ (w1 := ?_) (by rfl) rfl ?_ ?_
          rotate_left
          ·go_simp
           rfl
          refine hK.out _ _ ⟨(cg_ NB325_328 (hHeld.1)), (cg_ NB325_328 (hHeld.2.1)), (cg_ NB325_328 (hHeld.2.2.1)), (cg_ NB325_328 (hHeld.2.2.2.1)), (cg_ NB326_328 (hHeld.2.2.2.2.1)), (cg_ NB326_328 (hHeld.2.2.2.2.2.1)), (cg_ NB326_328 (hHeld.2.2.2.2.2.2.1)), (cg_ NB326_328 (hHeld.2.2.2.2.2.2.2))⟩ (fun hHeld => ?_)
          clear hK K
          refine done_ (done_of HT_.out (by kernel_rfl)) ?_
          try go_wp2
          go_roundg k2
          case measure => have := HK1.out; have := HK2.out; omega
          case rel => exact ⟨(wrap64 (1 + 1)), (x329000_2), (wrap64 ((wrap64 (a0_0 * a1_1)) + (wrap64 (a0_1 * a1_3)))), (x329002_2), (x329003_2), en_, H', ⟨by have := HK1.out; have := HK2.out; omega⟩, fl_ BK325 NB325_328, fl_ BK326 NB326_328, fl_ BK327 NB327_328, bp_ BK328, bw_ HB⟩
         ·rw [if_neg c17] at H
          exact absurd H (by simp)
       ·rw [if_neg c13] at H
        have c13b0 : (x7_1 == 0) = false := beq_eq_false_iff_ne.mpr c13
        have c13b1 : (x7_1 != 0) = true := bne_iff_ne.mpr c13
        by_cases c20 : x7_1 = 1
        ·subst c20
         have H1 : (if x8_2 = 0 then (spec_l04Times.l1 k2 1 (wrap64 (x8_2 + 1)) a0_0 a0_1 a0_2 a0_3 a1_0 a1_1 a1_2 a1_3 x329000_2 x329001_2 (wrap64 ((wrap64 (a0_2 * a1_0)) + (wrap64 (a0_3 * a1_2)))) x329003_2) else (if x8_2 = 1 then (spec_l04Times.l1 k2 1 (wrap64 (x8_2 + 1)) a0_0 a0_1 a0_2 a0_3 a1_0 a1_1 a1_2 a1_3 x329000_2 x329001_2 x329002_2 (wrap64 ((wrap64 (a0_2 * a1_1)) + (wrap64 (a0_3 * a1_3))))) else (none))) = some (r1, r2, r3, r4, r5) := by rw [if_pos rfl] at H; exact H
         clear H
         have H := H1
         clear H1
         by_cases c21 : x8_2 = 0
         ·subst c21
          have H1 : (spec_l04Times.l1 k2 1 (wrap64 (0 + 1)) a0_0 a0_1 a0_2 a0_3 a1_0 a1_1 a1_2 a1_3 x329000_2 x329001_2 (wrap64 ((wrap64 (a0_2 * a1_0)) + (wrap64 (a0_3 * a1_2)))) x329003_2) = some (r1, r2, r3, r4, r5) := by rw [if_pos rfl] at H; exact H
          clear H
          have H := H1
          clear H1
          have H' := Aside0.mk H
          clear H
          try go_wp2
          replace BK325 := Aside0.mk (blk_drew BK325.out)
          replace BK326 := Aside0.mk (blk_drew BK326.out)
          replace BK327 := Aside0.mk (blk_drew BK327.out)
          replace BK328 := Aside0.mk (blk_drew BK328.out)
          replace HB := Aside0.mk (below_drew1 HB.out)
          refine start_ (n := 24) (S := fun w' => w'.cell? ⟨gb325, 0, none⟩ = some (.int .i64 a0_0) ∧ w'.cell? ⟨gb325, 1, none⟩ = some (.int .i64 a0_1) ∧ w'.cell? ⟨gb325, 2, none⟩ = some (.int .i64 a0_2) ∧ w'.cell? ⟨gb325, 3, none⟩ = some (.int .i64 a0_3) ∧ w'.cell? ⟨gb326, 0, none⟩ = some (.int .i64 a1_0) ∧ w'.cell? ⟨gb326, 1, none⟩ = some (.int .i64 a1_1) ∧ w'.cell? ⟨gb326, 2, none⟩ = some (.int .i64 a1_2) ∧ w'.cell? ⟨gb326, 3, none⟩ = some (.int .i64 a1_3)) (ds := []) (bv_ 24 0) (by kernel_rfl) rfl rfl ⟨cz_ BK325 0, cz_ BK325 1, cz_ BK325 2, cz_ BK325 3, cz_ BK326 0, cz_ BK326 1, cz_ BK326 2, cz_ BK326 3⟩ (fun hHeld => ?_); refine with_tabW spec_l04Times.tab8 spec_l04Times.bits8 (fun HT_ HW_ => ?_)
          generalize wr.drew = w22 at BK325 BK326 BK327 BK328 HB hHeld ⊢
          refine px_ HT_ 0 20 1 ?_
          refine px_ HT_ 1 21 3 ?_
          refine px_ HT_ 2 22 7 ?_
          refine px_ HT_ 3 23 15 ?_
          refine px_ HT_ 4 24 31 ?_
          refine px_ HT_ 6 26 95 ?_
          refine px_ HT_ 7 27 223 ?_
          refine px_ HT_ 8 28 479 ?_
          refine px_ HT_ 11 31 2527 ?_
          refine px_ HT_ 12 32 6623 ?_
          refine px_ HT_ 13 33 14815 ?_
          refine px_ HT_ 15 35 47583 ?_
          refine px_ HT_ 16 36 113119 ?_
          refine px_ HT_ 17 37 244191 ?_
          refine px_ HT_ 21 41 2341343 ?_
          refine ta_ HT_ HW_ 5 (some 25) (bv_ 24 2341375) hHeld ?_ (hy := by rintro w' ⟨s0, s1, s2, s3, s4, s5, s6, s7⟩; go_simp; with_reducible rfl)
          refine ta_ HT_ HW_ 9 (some 29) (bv_ 24 2341887) hHeld ?_ (hy := by rintro w' ⟨s0, s1, s2, s3, s4, s5, s6, s7⟩; go_simp; with_reducible rfl)
          refine px_ HT_ 10 30 2342911 ?_
          refine ta_ HT_ HW_ 14 (some 34) (bv_ 24 2359295) hHeld ?_ (hy := by rintro w' ⟨s0, s1, s2, s3, s4, s5, s6, s7⟩; go_simp; with_reducible rfl)
          refine ta_ HT_ HW_ 18 (some 38) (bv_ 24 2621439) hHeld ?_ (hy := by rintro w' ⟨s0, s1, s2, s3, s4, s5, s6, s7⟩; go_simp; with_reducible rfl)
          refine px_ HT_ 19 39 3145727 ?_
          refine px_ HT_ 20 40 4194303 ?_
          refine px_ HT_ 22 42 8388607 ?_
          refine on_ HT_ 23 none (bv_ 24 16777215) (fun K hK => ?_)
          have hs23 : w22.cell? ⟨gb328, 2, none⟩ = some (.int .i64 x329002_2) := (blk_cell BK328.out 2).trans rfl
          have hfs23 := blk_frozen BK328.out 2
          have hns23_0 := NB325_328.out
          have hns23_1 := NB326_328.out
          have hns23_2 := NB327_328.out
          have hms23_0 := NB328_325.out
          have hms23_1 := NB328_326.out
          have hms23_2 := NB328_327.out
          refine skip_ (w1 := ?_) (by rfl) rfl ?_ ?_
          rotate_left
          ·go_simp
           rfl
          refine hK.out _ _ ⟨(cg_ NB325_328 (hHeld.1)), (cg_ NB325_328 (hHeld.2.1)), (cg_ NB325_328 (hHeld.2.2.1)), (cg_ NB325_328 (hHeld.2.2.2.1)), (cg_ NB326_328 (hHeld.2.2.2.2.1)), (cg_ NB326_328 (hHeld.2.2.2.2.2.1)), (cg_ NB326_328 (hHeld.2.2.2.2.2.2.1)), (cg_ NB326_328 (hHeld.2.2.2.2.2.2.2))⟩ (fun hHeld => ?_)
          clear hK K
          refine done_ (done_of HT_.out (by kernel_rfl)) ?_
          try go_wp2
          go_roundg k2
          case measure => have := HK1.out; have := HK2.out; omega
          case rel => exact ⟨(wrap64 (0 + 1)), (x329000_2), (x329001_2), (wrap64 ((wrap64 (a0_2 * a1_0)) + (wrap64 (a0_3 * a1_2)))), (x329003_2), en_, H', ⟨by have := HK1.out; have := HK2.out; omega⟩, fl_ BK325 NB325_328, fl_ BK326 NB326_328, fl_ BK327 NB327_328, bp_ BK328, bw_ HB⟩
         ·rw [if_neg c21] at H
          have c21b0 : (x8_2 == 0) = false := beq_eq_false_iff_ne.mpr c21
          have c21b1 : (x8_2 != 0) = true := bne_iff_ne.mpr c21
          by_cases c24 : x8_2 = 1
          ·subst c24
           have H1 : (spec_l04Times.l1 k2 1 (wrap64 (1 + 1)) a0_0 a0_1 a0_2 a0_3 a1_0 a1_1 a1_2 a1_3 x329000_2 x329001_2 x329002_2 (wrap64 ((wrap64 (a0_2 * a1_1)) + (wrap64 (a0_3 * a1_3))))) = some (r1, r2, r3, r4, r5) := by rw [if_pos rfl] at H; exact H
           clear H
           have H := H1
           clear H1
           have H' := Aside0.mk H
           clear H
           try go_wp2
           replace BK325 := Aside0.mk (blk_drew BK325.out)
           replace BK326 := Aside0.mk (blk_drew BK326.out)
           replace BK327 := Aside0.mk (blk_drew BK327.out)
           replace BK328 := Aside0.mk (blk_drew BK328.out)
           replace HB := Aside0.mk (below_drew1 HB.out)
           refine start_ (n := 24) (S := fun w' => w'.cell? ⟨gb325, 0, none⟩ = some (.int .i64 a0_0) ∧ w'.cell? ⟨gb325, 1, none⟩ = some (.int .i64 a0_1) ∧ w'.cell? ⟨gb325, 2, none⟩ = some (.int .i64 a0_2) ∧ w'.cell? ⟨gb325, 3, none⟩ = some (.int .i64 a0_3) ∧ w'.cell? ⟨gb326, 0, none⟩ = some (.int .i64 a1_0) ∧ w'.cell? ⟨gb326, 1, none⟩ = some (.int .i64 a1_1) ∧ w'.cell? ⟨gb326, 2, none⟩ = some (.int .i64 a1_2) ∧ w'.cell? ⟨gb326, 3, none⟩ = some (.int .i64 a1_3)) (ds := []) (bv_ 24 0) (by kernel_rfl) rfl rfl ⟨cz_ BK325 0, cz_ BK325 1, cz_ BK325 2, cz_ BK325 3, cz_ BK326 0, cz_ BK326 1, cz_ BK326 2, cz_ BK326 3⟩ (fun hHeld => ?_); refine with_tabW spec_l04Times.tab8 spec_l04Times.bits8 (fun HT_ HW_ => ?_)
           generalize wr.drew = w25 at BK325 BK326 BK327 BK328 HB hHeld ⊢
           refine px_ HT_ 0 20 1 ?_
           refine px_ HT_ 1 21 3 ?_
           refine px_ HT_ 2 22 7 ?_
           refine px_ HT_ 3 23 15 ?_
           refine px_ HT_ 4 24 31 ?_
           refine px_ HT_ 6 26 95 ?_
           refine px_ HT_ 7 27 223 ?_
           refine px_ HT_ 8 28 479 ?_
           refine px_ HT_ 11 31 2527 ?_
           refine px_ HT_ 12 32 6623 ?_
           refine px_ HT_ 13 33 14815 ?_
           refine px_ HT_ 15 35 47583 ?_
           refine px_ HT_ 16 36 113119 ?_
           refine px_ HT_ 17 37 244191 ?_
           refine px_ HT_ 21 41 2341343 ?_
           refine ta_ HT_ HW_ 5 (some 25) (bv_ 24 2341375) hHeld ?_ (hy := by rintro w' ⟨s0, s1, s2, s3, s4, s5, s6, s7⟩; go_simp; with_reducible rfl)
           refine ta_ HT_ HW_ 9 (some 29) (bv_ 24 2341887) hHeld ?_ (hy := by rintro w' ⟨s0, s1, s2, s3, s4, s5, s6, s7⟩; go_simp; with_reducible rfl)
           refine px_ HT_ 10 30 2342911 ?_
           refine ta_ HT_ HW_ 14 (some 34) (bv_ 24 2359295) hHeld ?_ (hy := by rintro w' ⟨s0, s1, s2, s3, s4, s5, s6, s7⟩; go_simp; with_reducible rfl)
           refine ta_ HT_ HW_ 18 (some 38) (bv_ 24 2621439) hHeld ?_ (hy := by rintro w' ⟨s0, s1, s2, s3, s4, s5, s6, s7⟩; go_simp; with_reducible rfl)
           refine px_ HT_ 19 39 3145727 ?_
           refine px_ HT_ 20 40 4194303 ?_
           refine px_ HT_ 22 42 8388607 ?_
           refine on_ HT_ 23 none (bv_ 24 16777215) (fun K hK => ?_)
           have hs26 : w25.cell? ⟨gb328, 3, none⟩ = some (.int .i64 x329003_2) := (blk_cell BK328.out 3).trans rfl
           have hfs26 := blk_frozen BK328.out 3
           have hns26_0 := NB325_328.out
           have hns26_1 := NB326_328.out
           have hns26_2 := NB327_328.out
           have hms26_0 := NB328_325.out
           have hms26_1 := NB328_326.out
           have hms26_2 := NB328_327.out
           refine skip_ (w1 := ?_) (by rfl) rfl ?_ ?_
           rotate_left
           ·go_simp
            rfl
           refine hK.out _ _ ⟨(cg_ NB325_328 (hHeld.1)), (cg_ NB325_328 (hHeld.2.1)), (cg_ NB325_328 (hHeld.2.2.1)), (cg_ NB325_328 (hHeld.2.2.2.1)), (cg_ NB326_328 (hHeld.2.2.2.2.1)), (cg_ NB326_328 (hHeld.2.2.2.2.2.1)), (cg_ NB326_328 (hHeld.2.2.2.2.2.2.1)), (cg_ NB326_328 (hHeld.2.2.2.2.2.2.2))⟩ (fun hHeld => ?_)
           clear hK K
           refine done_ (done_of HT_.out (by kernel_rfl)) ?_
           try go_wp2
           go_roundg k2
           case measure => have := HK1.out; have := HK2.out; omega
           case rel => exact ⟨(wrap64 (1 + 1)), (x329000_2), (x329001_2), (x329002_2), (wrap64 ((wrap64 (a0_2 * a1_1)) + (wrap64 (a0_3 * a1_3)))), en_, H', ⟨by have := HK1.out; have := HK2.out; omega⟩, fl_ BK325 NB325_328, fl_ BK326 NB326_328, fl_ BK327 NB327_328, bp_ BK328, bw_ HB⟩
          ·rw [if_neg c24] at H
           exact absurd H (by simp)
        ·rw [if_neg c20] at H
         exact absurd H (by simp)
      ·rw [if_neg c12] at H
       have c12b0 : decide (x8_2 < 2) = false := decide_eq_false c12
       clear c12
       have H' := Aside0.mk H
       clear H
       go_wp2
       go_roundg k2
       case measure => have := HK1.out; have := HK2.out; omega
       case rel => exact ⟨(wrap64 (x7_1 + 1)), (x329000_2), (x329001_2), (x329002_2), (x329003_2), en_, H', ⟨by have := HK1.out; have := HK2.out; omega⟩, bl_ BK325, bl_ BK326, bl_ BK327, bl_ BK328, bw_ HB⟩
   ·rw [if_neg c11] at H
    have c11b0 : decide (x7_1 < 2) = false := decide_eq_false c11
    clear c11
    replace H := ob_ H
    obtain ⟨⟨t329, t330, t331, t332, t333⟩, A270, H⟩ := H
    have A27 := Aside0.mk A270
    clear A270
    simp only [Option.some.injEq, Prod.mk.injEq] at H
    obtain ⟨rfl, rfl, rfl, rfl, rfl⟩ := H
    have hnb28 := NB328_325.out
    have hnc28 := NB325_328.out
    have hnb29 := NB328_326.out
    have hnc29 := NB326_328.out
    have hnb30 := NB328_327.out
    have hnc30 := NB327_328.out
    obtain ⟨hcz31_0, hcz31_1, hcz31_2, hcz31_3, hfz31_0, hfz31_1, hfz31_2, hfz31_3⟩ := ch4_ BK328
    go_wp2_with (first | ((refine gc_ 106 ?_); refine ge_ 45 Try.func106 #[.agg #[.int .i64 x329000_1, .int .i64 x329001_1, .int .i64 x329002_1, .int .i64 x329003_1]] ?_; (with_reducible refine (spec_l04Reduce.calls k1 x329000_1 x329001_1 x329002_1 x329003_1 t329 t330 t331 t332 t333 _ A27.out).mono ?_); rintro e w32 ⟨rfl, hb⟩; refine ⟨_, rfl, ?_⟩; replace BK325 := bb_ BK325 hb; replace BK326 := bb_ BK326 hb; replace BK327 := bb_ BK327 hb; replace BK328 := bb_ BK328 hb; replace HB := bt_ HB hb; (try clear hb)) | ((refine gd_ 9 ?_); refine bx_ 9 #[.int .i64 0, .int .i64 0, .int .i64 0, .int .i64 0] 46 ?_; intro gb334 hg w33 BK334 hb; have GW334 := bs_ HB hg; have GE334 := bs_ HB hg; have NB325_334 := bm_ BK325 hg; have NB334_325 := bn_ BK325 hg; have NB326_334 := bm_ BK326 hg; have NB334_326 := bn_ BK326 hg; have NB327_334 := bm_ BK327 hg; have NB334_327 := bn_ BK327 hg; have NB328_334 := bm_ BK328 hg; have NB334_328 := bn_ BK328 hg; replace BK325 := bb_ BK325 hb; replace BK326 := bb_ BK326 hb; replace BK327 := bb_ BK327 hb; replace BK328 := bb_ BK328 hb; replace HB := bt_ HB hb; clear hb hg; have hnb34 := NB334_325.out; have hnc34 := NB325_334.out; have hnb35 := NB334_326.out; have hnc35 := NB326_334.out; have hnb36 := NB334_327.out; have hnc36 := NB327_334.out; have hnb37 := NB334_328.out; have hnc37 := NB328_334.out; obtain ⟨hcz38_0, hcz38_1, hcz38_2, hcz38_3, hfz38_0, hfz38_1, hfz38_2, hfz38_3⟩ := ch4_ BK334; have hnb39 := NB327_325.out; have hnc39 := NB325_327.out; have hnb40 := NB327_326.out; have hnc40 := NB326_327.out; obtain ⟨hcz41_0, hcz41_1, hcz41_2, hcz41_3, hfz41_0, hfz41_1, hfz41_2, hfz41_3⟩ := ch4_ BK327))
    refine bodyPost_ret (results_ct rfl _ _ gb327 46 #[.int .i64 t329, .int .i64 t330, .int .i64 t331, .int .i64 t332] (0, 0) _ rfl (bp_ BK327).out Try.underlying46 rfl (by kernel_rfl)) rfl ?_
    exact ⟨es_, (bw_ HB).out⟩
end Go.Proofs.Ytgoeelhiffbjlaa.QT
