import Derived.Test.YtgoeelhiffbjlaaQTx10
import Derived.Test.YtgoeelhiffbjlaaQTx44
import Derived.Test.YtgoeelhiffbjlaaQTx46
namespace Go.Proofs.Ytgoeelhiffbjlaa.QT
set_option maxHeartbeats 8000000
set_option maxRecDepth 100000
open Go.RowKit Go.Proofs.YtgoeelhiffbjlaaW.PrintWords Go.Proofs.YtgoeelhiffbjlaaW.PrintLast Go.Proofs.YtgoeelhiffbjlaaW.PrintMore
attribute [local go_sem] isSome_setCell max2_int min2_int max_two min_two max_three min_three max_four min_four
set_option linter.unusedVariables false
set_option linter.unusedSimpArgs false

/-! ### impl_MatrixOfSteps: function 22 -/
def impl_MatrixOfSteps.l0 : Nat → Int → ByteArray → Int → Int → Int → Int → Int → Int → Option (Int × Int × Int × Int × Int)
 | 0, _, _, _, _, _, _, _, _ => none
 | k + 1, x0, x1, x22, x23, x292000, x292001, x292002, x292003 => if x23 < x22 then (if 0 ≤ x23 then (if x23 < (x1.size : Int) then (if (bt x1 x23) = 117 then ((impl_product.f k x292000 x292001 x292002 x292003 1 0 0 x0).bind fun bt293 => (if bt293.2.2.2.2 = true then (impl_MatrixOfSteps.l0 k x0 x1 x22 (wrap64 (x23 + 1)) bt293.1 bt293.2.1 bt293.2.2.1 bt293.2.2.2.1) else (some (0, 0, 0, 0, 3)))) else ((impl_product.f k x292000 x292001 x292002 x292003 x0 (((bt x1 x23) - 48) % 256) 0 1).bind fun bt299 => (if bt299.2.2.2.2 = true then (impl_MatrixOfSteps.l0 k x0 x1 x22 (wrap64 (x23 + 1)) bt299.1 bt299.2.1 bt299.2.2.1 bt299.2.2.2.1) else (some (0, 0, 0, 0, 3))))) else (none)) else (none)) else (some (x292000, x292001, x292002, x292003, 0))
def impl_MatrixOfSteps.f (k : Nat) (a0 : Int) (a1 : ByteArray) : Option (Int × Int × Int × Int × Int) := (impl_stepsCode.f k a0 0 0 0 a1).bind fun t286 => (if t286 = 0 then ((impl_one.f).bind fun bt287 => (impl_MatrixOfSteps.l0 k a0 a1 (a1.size : Int) 0 bt287.1 bt287.2.1 bt287.2.2.1 bt287.2.2.2)) else (some (0, 0, 0, 0, t286)))
theorem impl_MatrixOfSteps.calls (k : Nat) (a0 : Int) (a1 : ByteArray) (r1 : Int) (r2 : Int) (r3 : Int) (r4 : Int) (r5 : Int) (w : World) (h : impl_MatrixOfSteps.f k a0 a1 = some (r1, r2, r3, r4, r5)) :
  Calls Try.prog 22 #[.int .i64 a0, .string a1] w fun e w' => e = .returned (.tuple #[.agg #[.int .i64 r1, .int .i64 r2, .int .i64 r3, .int .i64 r4], .int .i64 r5]) ∧ Below w.heap.size w w' := by
 have hu46 := Try.underlying46
 have hu25 := Try.underlying25
 have hu44 := Try.underlying44
 have HB := Aside0.mk (Below.refl w.heap.size w)
 have H : ((impl_stepsCode.f k a0 0 0 0 a1).bind fun t286 => (if t286 = 0 then ((impl_one.f).bind fun bt287 => (impl_MatrixOfSteps.l0 k a0 a1 (a1.size : Int) 0 bt287.1 bt287.2.1 bt287.2.2.1 bt287.2.2.2)) else (some (0, 0, 0, 0, t286)))) = some (r1, r2, r3, r4, r5) := h
 clear h
 replace H := ob_ H
 obtain ⟨t286, A30, H⟩ := H
 have A3 := Aside0.mk A30
 clear A30
 by_cases c4 : t286 = 0
 ·rw [if_pos c4] at H
  have c4b0 : (t286 == 0) = true := beq_iff_eq.mpr c4
  have c4b1 : (t286 != 0) = false := bne_eq_false_iff_eq.mpr c4
  clear c4
  replace H := ob_ H
  obtain ⟨⟨t287, t288, t289, t290⟩, A50, H⟩ := H
  have A5 := Aside0.mk A50
  clear A50
  have H' := Aside0.mk H
  clear H
  go_enter Try.func22, Try.ntmps22
  go_wp2_with (first | ((refine gd_ 4 ?_); refine bx_ 4 #[.int .i64 0, .int .i64 0, .int .i64 0, .int .i64 0] 46 ?_; intro gb285 hg w6 BK285 hb; have GW285 := bs_ HB hg; have GE285 := bs_ HB hg; replace HB := bt_ HB hb; clear hb hg) | ((refine gc_ 76 ?_); refine ge_ 15 Try.func76 #[.int .i64 a0, .agg #[.int .i64 0, .int .i64 0, .int .i64 0], .string a1] ?_; (with_reducible refine (impl_stepsCode.calls k a0 0 0 0 a1 t286 _ A3.out).mono ?_); rintro e w7 ⟨rfl, hb⟩; refine ⟨_, rfl, ?_⟩; replace BK285 := bb_ BK285 hb; replace HB := bt_ HB hb; (try clear hb)) | ((refine gc_ 91 ?_); refine ge_ 20 Try.func91 #[] ?_; (with_reducible refine (impl_one.calls  t287 t288 t289 t290 _ A5.out).mono ?_); rintro e w8 ⟨rfl, hb⟩; refine ⟨_, rfl, ?_⟩; replace BK285 := bb_ BK285 hb; replace HB := bt_ HB hb; (try clear hb)) | ((refine gd_ 7 ?_); refine bx_ 7 #[.int .i64 0, .int .i64 0, .int .i64 0, .int .i64 0] 46 ?_; intro gb291 hg w9 BK291 hb; have GW291 := bs_ HB hg; have GE291 := bs_ HB hg; have NB285_291 := bm_ BK285 hg; have NB291_285 := bn_ BK285 hg; replace BK285 := bb_ BK285 hb; replace HB := bt_ HB hb; clear hb hg; have hnb10 := NB291_285.out; have hnc10 := NB285_291.out; obtain ⟨hcz11_0, hcz11_1, hcz11_2, hcz11_3, hfz11_0, hfz11_1, hfz11_2, hfz11_3⟩ := ch4_ BK291))
  go_loopg [23] k (fun kq v23 w' => ∃ (x23_1 : Int) (x286000_1 : Int) (x286001_1 : Int) (x286002_1 : Int) (x286003_1 : Int) (x292000_1 : Int) (x292001_1 : Int) (x292002_1 : Int) (x292003_1 : Int), v23 = .int .i64 x23_1 ∧ Aside0 (impl_MatrixOfSteps.l0 kq a0 a1 (a1.size : Int) x23_1 x292000_1 x292001_1 x292002_1 x292003_1 = some (r1, r2, r3, r4, r5)) ∧ Aside0 (kq ≤ k) ∧ Aside0 (w'.heap[gb285]? = some (.cells #[.int .i64 x286000_1, .int .i64 x286001_1, .int .i64 x286002_1, .int .i64 x286003_1] 46 (0, 0))) ∧ Aside0 (w'.heap[gb291]? = some (.cells #[.int .i64 x292000_1, .int .i64 x292001_1, .int .i64 x292002_1, .int .i64 x292003_1] 46 (0, 0))) ∧ Aside0 (Below w.heap.size w w'))
  case atStart => exact ⟨(0), (0), (0), (0), (0), (t287), (t288), (t289), (t290), en_, H', ⟨Nat.le_refl _⟩, fl_ BK285 NB285_291, bp_ BK291, bw_ HB⟩
  case round =>
   clear H'
   try clear c1
   try clear c2
   try clear p2
   try clear c4
   try clear c4b0
   try clear c4b1
   try clear c7
   try clear c9
   try clear c10
   try clear hcz11_0 hcz11_1 hcz11_2 hcz11_3
   try clear hfz11_0 hfz11_1 hfz11_2 hfz11_3
   obtain ⟨x23_1, x286000_1, x286001_1, x286002_1, x286003_1, x292000_1, x292001_1, x292002_1, x292003_1, rfl, HA, HK1, BK285, BK291, HB⟩ := hrel
   cases gk with
   | zero => exact absurd HA.out (by simp [impl_MatrixOfSteps.l0])
   | succ k1 =>
    have H := HA.out
    clear HA
    simp only [impl_MatrixOfSteps.l0] at H
    by_cases c12 : x23_1 < (a1.size : Int)
    ·rw [if_pos c12] at H
     have c12b0 : decide (x23_1 < (a1.size : Int)) = true := decide_eq_true c12
     clear c12
     by_cases c13 : 0 ≤ x23_1
     ·rw [if_pos c13] at H
      have c13b0 : decide (0 ≤ x23_1) = true := decide_eq_true c13
      clear c13
      by_cases c14 : x23_1 < (a1.size : Int)
      ·rw [if_pos c14] at H
       have c14b0 : decide (x23_1 < (a1.size : Int)) = true := decide_eq_true c14
       clear c14
       by_cases c16 : (bt a1 x23_1) = 117
       ·rw [if_pos c16] at H
        have c16b0 : ((bt a1 x23_1) == 117) = true := beq_iff_eq.mpr c16
        have c16b1 : ((bt a1 x23_1) != 117) = false := bne_eq_false_iff_eq.mpr c16
        clear c16
        replace H := ob_ H
        obtain ⟨⟨t293, t294, t295, t296, t297⟩, A170, H⟩ := H
        have A17 := Aside0.mk A170
        clear A170
        by_cases c18 : t297 = true
        ·subst c18
         have H1 : (impl_MatrixOfSteps.l0 k1 a0 a1 (a1.size : Int) (wrap64 (x23_1 + 1)) t293 t294 t295 t296) = some (r1, r2, r3, r4, r5) := by rw [if_pos rfl] at H; exact H
         clear H
         have H := H1
         clear H1
         have H' := Aside0.mk H
         clear H
         go_wp2_with (first | ((refine gd_ 9 ?_); refine bx_ 9 #[.int .i64 0, .int .i64 0, .int .i64 0, .int .i64 0] 46 ?_; intro gb292 hg w19 BK292 hb; have GW292 := bs_ HB hg; have GE292 := bs_ HB hg; have NB285_292 := bm_ BK285 hg; have NB292_285 := bn_ BK285 hg; have NB291_292 := bm_ BK291 hg; have NB292_291 := bn_ BK291 hg; replace BK285 := bb_ BK285 hb; replace BK291 := bb_ BK291 hb; replace HB := bt_ HB hb; clear hb hg; have hnb20 := NB292_285.out; have hnc20 := NB285_292.out; have hnb21 := NB292_291.out; have hnc21 := NB291_292.out; obtain ⟨hcz22_0, hcz22_1, hcz22_2, hcz22_3, hfz22_0, hfz22_1, hfz22_2, hfz22_3⟩ := ch4_ BK292; have p15 : 0 ≤ (x23_1 : Int) := od_; have q15 : x23_1 < (a1.size : Int) := od_; have hx15 := bt_at a1 x23_1; replace p15 := eq_true p15; replace q15 := eq_true q15; have hnb23 := NB291_285.out; have hnc23 := NB285_291.out; obtain ⟨hcz24_0, hcz24_1, hcz24_2, hcz24_3, hfz24_0, hfz24_1, hfz24_2, hfz24_3⟩ := ch4_ BK291) | ((refine gc_ 92 ?_); refine ge_ 46 Try.func92 #[.agg #[.int .i64 x292000_1, .int .i64 x292001_1, .int .i64 x292002_1, .int .i64 x292003_1], .agg #[.int .i64 1, .int .i64 0, .int .i64 0, .int .i64 a0]] ?_; (with_reducible refine (impl_product.calls k1 x292000_1 x292001_1 x292002_1 x292003_1 1 0 0 a0 t293 t294 t295 t296 true _ A17.out).mono ?_); rintro e w25 ⟨rfl, hb⟩; refine ⟨_, rfl, ?_⟩; replace BK285 := fb_ BK285 NB285_292 hb; replace BK291 := fb_ BK291 NB291_292 hb; replace BK292 := Aside0.mk (blk_below (g := gb292) (o := .cells #[.int .i64 1, .int .i64 0, .int .i64 0, .int .i64 a0] 46 (0, 0)) (bp_ BK292).out hb); replace HB := bt_ HB hb; (try clear hb)) | ((refine gd_ 10 ?_); refine bx_ 10 #[.int .i64 0, .int .i64 0, .int .i64 0, .int .i64 0] 46 ?_; intro gb298 hg w26 BK298 hb; have GW298 := bs_ HB hg; have GE298 := bs_ HB hg; have NB285_298 := bm_ BK285 hg; have NB298_285 := bn_ BK285 hg; have NB291_298 := bm_ BK291 hg; have NB298_291 := bn_ BK291 hg; have NB292_298 := bm_ BK292 hg; have NB298_292 := bn_ BK292 hg; replace BK285 := bb_ BK285 hb; replace BK291 := bb_ BK291 hb; replace BK292 := bb_ BK292 hb; replace HB := bt_ HB hb; clear hb hg; have hnb27 := NB298_285.out; have hnc27 := NB285_298.out; have hnb28 := NB298_291.out; have hnc28 := NB291_298.out; have hnb29 := NB298_292.out; have hnc29 := NB292_298.out; obtain ⟨hcz30_0, hcz30_1, hcz30_2, hcz30_3, hfz30_0, hfz30_1, hfz30_2, hfz30_3⟩ := ch4_ BK298; obtain ⟨hcz31_0, hcz31_1, hcz31_2, hcz31_3, hfz31_0, hfz31_1, hfz31_2, hfz31_3⟩ := ch4_ BK291))
         go_roundg k1
         case measure => have := HK1.out; omega
         case rel => exact ⟨(wrap64 (x23_1 + 1)), (x286000_1), (x286001_1), (x286002_1), (x286003_1), (t293), (t294), (t295), (t296), en_, H', ⟨by have := HK1.out; omega⟩, bp_ BK285, bp_ BK291, bw_ HB⟩
        ·replace c18 := Bool.eq_false_iff.mpr c18
         subst c18
         have H1 : (some (0, 0, 0, 0, 3)) = some (r1, r2, r3, r4, r5) := by rw [if_neg (show ¬ (false = true) by decide)] at H; exact H
         clear H
         have H := H1
         clear H1
         simp only [Option.some.injEq, Prod.mk.injEq] at H
         obtain ⟨rfl, rfl, rfl, rfl, rfl⟩ := H
         go_wp2_with (first | ((refine gd_ 9 ?_); refine bx_ 9 #[.int .i64 0, .int .i64 0, .int .i64 0, .int .i64 0] 46 ?_; intro gb292 hg w32 BK292 hb; have GW292 := bs_ HB hg; have GE292 := bs_ HB hg; have NB285_292 := bm_ BK285 hg; have NB292_285 := bn_ BK285 hg; have NB291_292 := bm_ BK291 hg; have NB292_291 := bn_ BK291 hg; replace BK285 := bb_ BK285 hb; replace BK291 := bb_ BK291 hb; replace HB := bt_ HB hb; clear hb hg; have hnb33 := NB292_285.out; have hnc33 := NB285_292.out; have hnb34 := NB292_291.out; have hnc34 := NB291_292.out; obtain ⟨hcz35_0, hcz35_1, hcz35_2, hcz35_3, hfz35_0, hfz35_1, hfz35_2, hfz35_3⟩ := ch4_ BK292; have p15 : 0 ≤ (x23_1 : Int) := od_; have q15 : x23_1 < (a1.size : Int) := od_; have hx15 := bt_at a1 x23_1; replace p15 := eq_true p15; replace q15 := eq_true q15; have hnb36 := NB291_285.out; have hnc36 := NB285_291.out; obtain ⟨hcz37_0, hcz37_1, hcz37_2, hcz37_3, hfz37_0, hfz37_1, hfz37_2, hfz37_3⟩ := ch4_ BK291) | ((refine gc_ 92 ?_); refine ge_ 46 Try.func92 #[.agg #[.int .i64 x292000_1, .int .i64 x292001_1, .int .i64 x292002_1, .int .i64 x292003_1], .agg #[.int .i64 1, .int .i64 0, .int .i64 0, .int .i64 a0]] ?_; (with_reducible refine (impl_product.calls k1 x292000_1 x292001_1 x292002_1 x292003_1 1 0 0 a0 t293 t294 t295 t296 false _ A17.out).mono ?_); rintro e w38 ⟨rfl, hb⟩; refine ⟨_, rfl, ?_⟩; replace BK285 := fb_ BK285 NB285_292 hb; replace BK291 := fb_ BK291 NB291_292 hb; replace BK292 := Aside0.mk (blk_below (g := gb292) (o := .cells #[.int .i64 1, .int .i64 0, .int .i64 0, .int .i64 a0] 46 (0, 0)) (bp_ BK292).out hb); replace HB := bt_ HB hb; (try clear hb)) | ((refine gd_ 10 ?_); refine bx_ 10 #[.int .i64 0, .int .i64 0, .int .i64 0, .int .i64 0] 46 ?_; intro gb298 hg w39 BK298 hb; have GW298 := bs_ HB hg; have GE298 := bs_ HB hg; have NB285_298 := bm_ BK285 hg; have NB298_285 := bn_ BK285 hg; have NB291_298 := bm_ BK291 hg; have NB298_291 := bn_ BK291 hg; have NB292_298 := bm_ BK292 hg; have NB298_292 := bn_ BK292 hg; replace BK285 := bb_ BK285 hb; replace BK291 := bb_ BK291 hb; replace BK292 := bb_ BK292 hb; replace HB := bt_ HB hb; clear hb hg; have hnb40 := NB298_285.out; have hnc40 := NB285_298.out; have hnb41 := NB298_291.out; have hnc41 := NB291_298.out; have hnb42 := NB298_292.out; have hnc42 := NB292_298.out; obtain ⟨hcz43_0, hcz43_1, hcz43_2, hcz43_3, hfz43_0, hfz43_1, hfz43_2, hfz43_3⟩ := ch4_ BK298; obtain ⟨hcz44_0, hcz44_1, hcz44_2, hcz44_3, hfz44_0, hfz44_1, hfz44_2, hfz44_3⟩ := ch4_ BK285))
         refine bodyPost_ret (results_ct rfl _ _ gb285 46 #[.int .i64 0, .int .i64 0, .int .i64 0, .int .i64 0] (0, 0) _ rfl (bp_ BK285).out Try.underlying46 rfl (by kernel_rfl)) rfl ?_
         exact ⟨es_, (bw_ HB).out⟩
       ·rw [if_neg c16] at H
        have c16b0 : ((bt a1 x23_1) == 117) = false := beq_eq_false_iff_ne.mpr c16
        have c16b1 : ((bt a1 x23_1) != 117) = true := bne_iff_ne.mpr c16
        replace H := ob_ H
        obtain ⟨⟨t299, t300, t301, t302, t303⟩, A460, H⟩ := H
        have A46 := Aside0.mk A460
        clear A460
        by_cases c47 : t303 = true
        ·subst c47
         have H1 : (impl_MatrixOfSteps.l0 k1 a0 a1 (a1.size : Int) (wrap64 (x23_1 + 1)) t299 t300 t301 t302) = some (r1, r2, r3, r4, r5) := by rw [if_pos rfl] at H; exact H
         clear H
         have H := H1
         clear H1
         have H' := Aside0.mk H
         clear H
         go_wp2_with (first | ((refine gd_ 9 ?_); refine bx_ 9 #[.int .i64 0, .int .i64 0, .int .i64 0, .int .i64 0] 46 ?_; intro gb292 hg w48 BK292 hb; have GW292 := bs_ HB hg; have GE292 := bs_ HB hg; have NB285_292 := bm_ BK285 hg; have NB292_285 := bn_ BK285 hg; have NB291_292 := bm_ BK291 hg; have NB292_291 := bn_ BK291 hg; replace BK285 := bb_ BK285 hb; replace BK291 := bb_ BK291 hb; replace HB := bt_ HB hb; clear hb hg; have hnb49 := NB292_285.out; have hnc49 := NB285_292.out; have hnb50 := NB292_291.out; have hnc50 := NB291_292.out; obtain ⟨hcz51_0, hcz51_1, hcz51_2, hcz51_3, hfz51_0, hfz51_1, hfz51_2, hfz51_3⟩ := ch4_ BK292; have p15 : 0 ≤ (x23_1 : Int) := od_; have q15 : x23_1 < (a1.size : Int) := od_; have hx15 := bt_at a1 x23_1; replace p15 := eq_true p15; replace q15 := eq_true q15; have p45 : 0 ≤ (x23_1 : Int) := od_; have q45 : x23_1 < (a1.size : Int) := od_; have hx45 := bt_at a1 x23_1; replace p45 := eq_true p45; replace q45 := eq_true q45; have hnb52 := NB291_285.out; have hnc52 := NB285_291.out; obtain ⟨hcz53_0, hcz53_1, hcz53_2, hcz53_3, hfz53_0, hfz53_1, hfz53_2, hfz53_3⟩ := ch4_ BK291) | ((refine gc_ 92 ?_); refine ge_ 46 Try.func92 #[.agg #[.int .i64 x292000_1, .int .i64 x292001_1, .int .i64 x292002_1, .int .i64 x292003_1], .agg #[.int .i64 a0, .int .i64 (((bt a1 x23_1) - 48) % 256), .int .i64 0, .int .i64 1]] ?_; (with_reducible refine (impl_product.calls k1 x292000_1 x292001_1 x292002_1 x292003_1 a0 (((bt a1 x23_1) - 48) % 256) 0 1 t299 t300 t301 t302 true _ A46.out).mono ?_); rintro e w54 ⟨rfl, hb⟩; refine ⟨_, rfl, ?_⟩; replace BK285 := fb_ BK285 NB285_292 hb; replace BK291 := fb_ BK291 NB291_292 hb; replace BK292 := Aside0.mk (blk_below (g := gb292) (o := .cells #[.int .i64 a0, .int .i64 (((bt a1 x23_1) - 48) % 256), .int .i64 0, .int .i64 1] 46 (0, 0)) (bp_ BK292).out hb); replace HB := bt_ HB hb; (try clear hb)) | ((refine gd_ 10 ?_); refine bx_ 10 #[.int .i64 0, .int .i64 0, .int .i64 0, .int .i64 0] 46 ?_; intro gb304 hg w55 BK304 hb; have GW304 := bs_ HB hg; have GE304 := bs_ HB hg; have NB285_304 := bm_ BK285 hg; have NB304_285 := bn_ BK285 hg; have NB291_304 := bm_ BK291 hg; have NB304_291 := bn_ BK291 hg; have NB292_304 := bm_ BK292 hg; have NB304_292 := bn_ BK292 hg; replace BK285 := bb_ BK285 hb; replace BK291 := bb_ BK291 hb; replace BK292 := bb_ BK292 hb; replace HB := bt_ HB hb; clear hb hg; have hnb56 := NB304_285.out; have hnc56 := NB285_304.out; have hnb57 := NB304_291.out; have hnc57 := NB291_304.out; have hnb58 := NB304_292.out; have hnc58 := NB292_304.out; obtain ⟨hcz59_0, hcz59_1, hcz59_2, hcz59_3, hfz59_0, hfz59_1, hfz59_2, hfz59_3⟩ := ch4_ BK304; obtain ⟨hcz60_0, hcz60_1, hcz60_2, hcz60_3, hfz60_0, hfz60_1, hfz60_2, hfz60_3⟩ := ch4_ BK291))
         go_roundg k1
         case measure => have := HK1.out; omega
         case rel => exact ⟨(wrap64 (x23_1 + 1)), (x286000_1), (x286001_1), (x286002_1), (x286003_1), (t299), (t300), (t301), (t302), en_, H', ⟨by have := HK1.out; omega⟩, bp_ BK285, bp_ BK291, bw_ HB⟩
        ·replace c47 := Bool.eq_false_iff.mpr c47
         subst c47
         have H1 : (some (0, 0, 0, 0, 3)) = some (r1, r2, r3, r4, r5) := by rw [if_neg (show ¬ (false = true) by decide)] at H; exact H
         clear H
         have H := H1
         clear H1
         simp only [Option.some.injEq, Prod.mk.injEq] at H
         obtain ⟨rfl, rfl, rfl, rfl, rfl⟩ := H
         go_wp2_with (first | ((refine gd_ 9 ?_); refine bx_ 9 #[.int .i64 0, .int .i64 0, .int .i64 0, .int .i64 0] 46 ?_; intro gb292 hg w61 BK292 hb; have GW292 := bs_ HB hg; have GE292 := bs_ HB hg; have NB285_292 := bm_ BK285 hg; have NB292_285 := bn_ BK285 hg; have NB291_292 := bm_ BK291 hg; have NB292_291 := bn_ BK291 hg; replace BK285 := bb_ BK285 hb; replace BK291 := bb_ BK291 hb; replace HB := bt_ HB hb; clear hb hg; have hnb62 := NB292_285.out; have hnc62 := NB285_292.out; have hnb63 := NB292_291.out; have hnc63 := NB291_292.out; obtain ⟨hcz64_0, hcz64_1, hcz64_2, hcz64_3, hfz64_0, hfz64_1, hfz64_2, hfz64_3⟩ := ch4_ BK292; have p15 : 0 ≤ (x23_1 : Int) := od_; have q15 : x23_1 < (a1.size : Int) := od_; have hx15 := bt_at a1 x23_1; replace p15 := eq_true p15; replace q15 := eq_true q15; have p45 : 0 ≤ (x23_1 : Int) := od_; have q45 : x23_1 < (a1.size : Int) := od_; have hx45 := bt_at a1 x23_1; replace p45 := eq_true p45; replace q45 := eq_true q45; have hnb65 := NB291_285.out; have hnc65 := NB285_291.out; obtain ⟨hcz66_0, hcz66_1, hcz66_2, hcz66_3, hfz66_0, hfz66_1, hfz66_2, hfz66_3⟩ := ch4_ BK291) | ((refine gc_ 92 ?_); refine ge_ 46 Try.func92 #[.agg #[.int .i64 x292000_1, .int .i64 x292001_1, .int .i64 x292002_1, .int .i64 x292003_1], .agg #[.int .i64 a0, .int .i64 (((bt a1 x23_1) - 48) % 256), .int .i64 0, .int .i64 1]] ?_; (with_reducible refine (impl_product.calls k1 x292000_1 x292001_1 x292002_1 x292003_1 a0 (((bt a1 x23_1) - 48) % 256) 0 1 t299 t300 t301 t302 false _ A46.out).mono ?_); rintro e w67 ⟨rfl, hb⟩; refine ⟨_, rfl, ?_⟩; replace BK285 := fb_ BK285 NB285_292 hb; replace BK291 := fb_ BK291 NB291_292 hb; replace BK292 := Aside0.mk (blk_below (g := gb292) (o := .cells #[.int .i64 a0, .int .i64 (((bt a1 x23_1) - 48) % 256), .int .i64 0, .int .i64 1] 46 (0, 0)) (bp_ BK292).out hb); replace HB := bt_ HB hb; (try clear hb)) | ((refine gd_ 10 ?_); refine bx_ 10 #[.int .i64 0, .int .i64 0, .int .i64 0, .int .i64 0] 46 ?_; intro gb304 hg w68 BK304 hb; have GW304 := bs_ HB hg; have GE304 := bs_ HB hg; have NB285_304 := bm_ BK285 hg; have NB304_285 := bn_ BK285 hg; have NB291_304 := bm_ BK291 hg; have NB304_291 := bn_ BK291 hg; have NB292_304 := bm_ BK292 hg; have NB304_292 := bn_ BK292 hg; replace BK285 := bb_ BK285 hb; replace BK291 := bb_ BK291 hb; replace BK292 := bb_ BK292 hb; replace HB := bt_ HB hb; clear hb hg; have hnb69 := NB304_285.out; have hnc69 := NB285_304.out; have hnb70 := NB304_291.out; have hnc70 := NB291_304.out; have hnb71 := NB304_292.out; have hnc71 := NB292_304.out; obtain ⟨hcz72_0, hcz72_1, hcz72_2, hcz72_3, hfz72_0, hfz72_1, hfz72_2, hfz72_3⟩ := ch4_ BK304; obtain ⟨hcz73_0, hcz73_1, hcz73_2, hcz73_3, hfz73_0, hfz73_1, hfz73_2, hfz73_3⟩ := ch4_ BK285))
         refine bodyPost_ret (results_ct rfl _ _ gb285 46 #[.int .i64 0, .int .i64 0, .int .i64 0, .int .i64 0] (0, 0) _ rfl (bp_ BK285).out Try.underlying46 rfl (by kernel_rfl)) rfl ?_
         exact ⟨es_, (bw_ HB).out⟩
      ·rw [if_neg c14] at H
       exact absurd H (by simp)
     ·rw [if_neg c13] at H
      exact absurd H (by simp)
    ·rw [if_neg c12] at H
     have c12b0 : decide (x23_1 < (a1.size : Int)) = false := decide_eq_false c12
     clear c12
     simp only [Option.some.injEq, Prod.mk.injEq] at H
     obtain ⟨rfl, rfl, rfl, rfl, rfl⟩ := H
     have hnb74 := NB291_285.out
     have hnc74 := NB285_291.out
     obtain ⟨hcz75_0, hcz75_1, hcz75_2, hcz75_3, hfz75_0, hfz75_1, hfz75_2, hfz75_3⟩ := ch4_ BK291
     obtain ⟨hcz76_0, hcz76_1, hcz76_2, hcz76_3, hfz76_0, hfz76_1, hfz76_2, hfz76_3⟩ := ch4_ BK285
     go_wp2
     refine bodyPost_ret (results_ct rfl _ _ gb285 46 #[.int .i64 x292000_1, .int .i64 x292001_1, .int .i64 x292002_1, .int .i64 x292003_1] (0, 0) _ rfl (bp_ BK285).out Try.underlying46 rfl (by kernel_rfl)) rfl ?_
     exact ⟨es_, (bw_ HB).out⟩
 ·rw [if_neg c4] at H
  have c4b0 : (t286 == 0) = false := beq_eq_false_iff_ne.mpr c4
  have c4b1 : (t286 != 0) = true := bne_iff_ne.mpr c4
  simp only [Option.some.injEq, Prod.mk.injEq] at H
  obtain ⟨rfl, rfl, rfl, rfl, rfl⟩ := H
  go_enter Try.func22, Try.ntmps22
  go_wp2_with (first | ((refine gd_ 4 ?_); refine bx_ 4 #[.int .i64 0, .int .i64 0, .int .i64 0, .int .i64 0] 46 ?_; intro gb285 hg w77 BK285 hb; have GW285 := bs_ HB hg; have GE285 := bs_ HB hg; replace HB := bt_ HB hb; clear hb hg) | ((refine gc_ 76 ?_); refine ge_ 15 Try.func76 #[.int .i64 a0, .agg #[.int .i64 0, .int .i64 0, .int .i64 0], .string a1] ?_; (with_reducible refine (impl_stepsCode.calls k a0 0 0 0 a1 t286 _ A3.out).mono ?_); rintro e w78 ⟨rfl, hb⟩; refine ⟨_, rfl, ?_⟩; replace BK285 := bb_ BK285 hb; replace HB := bt_ HB hb; (try clear hb); obtain ⟨hcz79_0, hcz79_1, hcz79_2, hcz79_3, hfz79_0, hfz79_1, hfz79_2, hfz79_3⟩ := ch4_ BK285))
  refine bodyPost_ret (results_ct rfl _ _ gb285 46 #[.int .i64 0, .int .i64 0, .int .i64 0, .int .i64 0] (0, 0) _ rfl (bp_ BK285).out Try.underlying46 rfl (by kernel_rfl)) rfl ?_
  exact ⟨es_, (bw_ HB).out⟩
/-! ### spec_l01Gcd: function 167 -/
def spec_l01Gcd.l0 : Nat → Int → Int → Option (Int)
 | 0, _, _ => none
 | k + 1, x0, x1 => if x1 = 0 then (some (mx x0 (wrap64 (-x0)))) else (spec_l01Gcd.l0 k x1 (Int.tmod x0 x1))
def spec_l01Gcd.f (k : Nat) (a0 : Int) (a1 : Int) : Option (Int) := spec_l01Gcd.l0 k a0 a1
theorem spec_l01Gcd.calls (k : Nat) (a0 : Int) (a1 : Int) (r : Int) (w : World) (h : spec_l01Gcd.f k a0 a1 = some r) :
  Calls Try.prog 167 #[.int .i64 a0, .int .i64 a1] w fun e w' => e = .returned (.int .i64 r) ∧ Below w.heap.size w w' := by
 have HB := Aside0.mk (Below.refl w.heap.size w)
 have H : (spec_l01Gcd.l0 k a0 a1) = some r := h
 clear h
 have H' := Aside0.mk H
 clear H
 go_enter Try.func167, Try.ntmps167
 go_wp2
 go_loopg [0, 1] k (fun kq v0 v1 w' => ∃ (x0_1 : Int) (x1_1 : Int), v0 = .int .i64 x0_1 ∧ v1 = .int .i64 x1_1 ∧ Aside0 (spec_l01Gcd.l0 kq x0_1 x1_1 = some r) ∧ Aside0 (kq ≤ k) ∧ Aside0 (Below w.heap.size w w'))
 case atStart => exact ⟨(a0), (a1), en_, en_, H', ⟨Nat.le_refl _⟩, bw_ HB⟩
 case round =>
  clear H'
  try clear c1
  try clear p2
  obtain ⟨x0_1, x1_1, rfl, rfl, HA, HK1, HB⟩ := hrel
  cases gk with
  | zero => exact absurd HA.out (by simp [spec_l01Gcd.l0])
  | succ k1 =>
   have H := HA.out
   clear HA
   simp only [spec_l01Gcd.l0] at H
   by_cases c3 : x1_1 = 0
   ·rw [if_pos c3] at H
    have c3b0 : (x1_1 == 0) = true := beq_iff_eq.mpr c3
    have c3b1 : (x1_1 != 0) = false := bne_eq_false_iff_eq.mpr c3
    clear c3
    obtain ⟨ji4, hji4⟩ : ∃ j_ : Int, (mx x0_1 (wrap64 (-x0_1))) = j_ := ⟨_, rfl⟩
    replace H : (some ji4) = some r := by first | (rw [hji4] at H; exact H) | (simp only [hji4] at H ⊢; exact H)
    have hji4_k : (if x0_1 < (IntKind.i64.wrap (-x0_1)) then (IntKind.i64.wrap (-x0_1)) else x0_1) = ji4 := by simp only [i64_w]; exact hji4
    have hji4_ : (if x0_1 < (wrap64 (-x0_1)) then (wrap64 (-x0_1)) else x0_1) = ji4 := hji4
    obtain rfl := si_ H
    go_wp2
    go_ret
    exact ⟨by first | rfl | (simp [errW_none, errW_some] <;> rfl) | (simp only [← hji4]; first | rfl | (simp [errW_none, errW_some] <;> rfl)) | (simp [*, errW_none, errW_some] <;> rfl), (bw_ HB).out⟩
   ·rw [if_neg c3] at H
    have c3b0 : (x1_1 == 0) = false := beq_eq_false_iff_ne.mpr c3
    have c3b1 : (x1_1 != 0) = true := bne_iff_ne.mpr c3
    have H' := Aside0.mk H
    clear H
    go_wp2
    go_roundg k1
    case measure => have := HK1.out; omega
    case rel => exact ⟨(x1_1), (Int.tmod x0_1 x1_1), en_, en_, H', ⟨by have := HK1.out; omega⟩, bw_ HB⟩
end Go.Proofs.Ytgoeelhiffbjlaa.QT
