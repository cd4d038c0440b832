import Derived.Test.YtgoeelhiffbjlaaQTx10
import Derived.Test.YtgoeelhiffbjlaaQTx28
import Derived.Test.YtgoeelhiffbjlaaQTx50
namespace Go.Proofs.Ytgoeelhiffbjlaa.QT
set_option maxHeartbeats 8000000
set_option maxRecDepth 100000
open Go.RowKit Go.Proofs.YtgoeelhiffbjlaaW.PrintWords Go.Proofs.YtgoeelhiffbjlaaW.PrintLast Go.Proofs.YtgoeelhiffbjlaaW.PrintMore
attribute [local go_sem] isSome_setCell max2_int min2_int max_two min_two max_three min_three max_four min_four
set_option linter.unusedVariables false
set_option linter.unusedSimpArgs false

/-! ### spec_MatrixOfSteps: function 23 -/
def spec_MatrixOfSteps.l0 : Nat → Int → ByteArray → Int → Int → Int → Int → Int → Option (Int × Int × Int × Int × Int)
 | 0, _, _, _, _, _, _, _ => none
 | k + 1, x0, x1, x8, x338000, x338001, x338002, x338003 => if x8 < (x1.size : Int) then (if 0 ≤ x8 then (if (bt x1 x8) = 117 then ((spec_l04Times.f k x338000 x338001 x338002 x338003 1 0 0 x0).bind fun bt339 => (if bt339.2.2.2.2 = true then (spec_MatrixOfSteps.l0 k x0 x1 (wrap64 (x8 + 1)) bt339.1 bt339.2.1 bt339.2.2.1 bt339.2.2.2.1) else (some (0, 0, 0, 0, 3)))) else ((spec_l04Times.f k x338000 x338001 x338002 x338003 x0 (wrap64 ((wrap64 (bt x1 x8)) - 48)) 0 1).bind fun bt345 => (if bt345.2.2.2.2 = true then (spec_MatrixOfSteps.l0 k x0 x1 (wrap64 (x8 + 1)) bt345.1 bt345.2.1 bt345.2.2.1 bt345.2.2.2.1) else (some (0, 0, 0, 0, 3))))) else (none)) else (some (x338000, x338001, x338002, x338003, 0))
def spec_MatrixOfSteps.f (k : Nat) (a0 : Int) (a1 : ByteArray) : Option (Int × Int × Int × Int × Int) := (spec_l10Code.f k a0 a1 ([] : List (S25))).bind fun t336 => (if t336 = 0 then (spec_MatrixOfSteps.l0 k a0 a1 0 1 0 0 1) else (some (0, 0, 0, 0, t336)))
theorem spec_MatrixOfSteps.calls (k : Nat) (a0 : Int) (a1 : ByteArray) (r1 : Int) (r2 : Int) (r3 : Int) (r4 : Int) (r5 : Int) (w : World) (h : spec_MatrixOfSteps.f k a0 a1 = some (r1, r2, r3, r4, r5)) :
  Calls Try.prog 23 #[.int .i64 a0, .string a1] w fun e w' => e = .returned (.tuple #[.agg #[.int .i64 r1, .int .i64 r2, .int .i64 r3, .int .i64 r4], .int .i64 r5]) ∧ Below w.heap.size w w' := by
 have hu46 := Try.underlying46
 have hu44 := Try.underlying44
 have HB := Aside0.mk (Below.refl w.heap.size w)
 have H : ((spec_l10Code.f k a0 a1 ([] : List (S25))).bind fun t336 => (if t336 = 0 then (spec_MatrixOfSteps.l0 k a0 a1 0 1 0 0 1) else (some (0, 0, 0, 0, t336)))) = some (r1, r2, r3, r4, r5) := h
 clear h
 replace H := ob_ H
 obtain ⟨t336, A30, H⟩ := H
 have A3 := Aside0.mk A30
 clear A30
 by_cases c4 : t336 = 0
 ·rw [if_pos c4] at H
  have c4b0 : (t336 == 0) = true := beq_iff_eq.mpr c4
  have c4b1 : (t336 != 0) = false := bne_eq_false_iff_eq.mpr c4
  clear c4
  have H' := Aside0.mk H
  clear H
  go_enter Try.func23, Try.ntmps23
  go_wp2_with (first | ((refine gd_ 4 ?_); refine bx_ 4 #[.int .i64 0, .int .i64 0, .int .i64 0, .int .i64 0] 46 ?_; intro gb335 hg w5 BK335 hb; have GW335 := bs_ HB hg; have GE335 := bs_ HB hg; replace HB := bt_ HB hb; clear hb hg) | ((refine gc_ 78 ?_); refine ge_ 14 Try.func78 #[.int .i64 a0, .string a1, .slice none 0 0] ?_; (refine (spec_l10Code.calls k a0 a1 _ _ ([] : List (S25)) t336 _ ?side1 ?side2 A3.out).mono ?_); (case side1 => exact Kd.C_nil _ _); (case side2 => exact Nat.le_refl _); rintro e w6 ⟨rfl, hb⟩; refine ⟨_, rfl, ?_⟩; replace BK335 := bb_ BK335 hb; replace HB := bt_ HB hb; (try clear hb)) | ((refine gd_ 7 ?_); refine bx_ 7 #[.int .i64 0, .int .i64 0, .int .i64 0, .int .i64 0] 46 ?_; intro gb337 hg w7 BK337 hb; have GW337 := bs_ HB hg; have GE337 := bs_ HB hg; have NB335_337 := bm_ BK335 hg; have NB337_335 := bn_ BK335 hg; replace BK335 := bb_ BK335 hb; replace HB := bt_ HB hb; clear hb hg; have hnb8 := NB337_335.out; have hnc8 := NB335_337.out; obtain ⟨hcz9_0, hcz9_1, hcz9_2, hcz9_3, hfz9_0, hfz9_1, hfz9_2, hfz9_3⟩ := ch4_ BK337))
  go_loopg [8] k (fun kq v8 w' => ∃ (x8_1 : Int) (x336000_1 : Int) (x336001_1 : Int) (x336002_1 : Int) (x336003_1 : Int) (x338000_1 : Int) (x338001_1 : Int) (x338002_1 : Int) (x338003_1 : Int), v8 = .int .i64 x8_1 ∧ Aside0 (spec_MatrixOfSteps.l0 kq a0 a1 x8_1 x338000_1 x338001_1 x338002_1 x338003_1 = some (r1, r2, r3, r4, r5)) ∧ Aside0 (kq ≤ k) ∧ Aside0 (w'.heap[gb335]? = some (.cells #[.int .i64 x336000_1, .int .i64 x336001_1, .int .i64 x336002_1, .int .i64 x336003_1] 46 (0, 0))) ∧ Aside0 (w'.heap[gb337]? = some (.cells #[.int .i64 x338000_1, .int .i64 x338001_1, .int .i64 x338002_1, .int .i64 x338003_1] 46 (0, 0))) ∧ Aside0 (Below w.heap.size w w'))
  case atStart => exact ⟨(0), (0), (0), (0), (0), (1), (0), (0), (1), en_, H', ⟨Nat.le_refl _⟩, fl_ BK335 NB335_337, bp_ BK337, bw_ HB⟩
  case round =>
   clear H'
   try clear c2
   try clear p2
   try clear c4
   try clear c4b0
   try clear c4b1
   try clear c7
   try clear c8
   try clear hcz9_0 hcz9_1 hcz9_2 hcz9_3
   try clear hfz9_0 hfz9_1 hfz9_2 hfz9_3
   obtain ⟨x8_1, x336000_1, x336001_1, x336002_1, x336003_1, x338000_1, x338001_1, x338002_1, x338003_1, rfl, HA, HK1, BK335, BK337, HB⟩ := hrel
   cases gk with
   | zero => exact absurd HA.out (by simp [spec_MatrixOfSteps.l0])
   | succ k1 =>
    have H := HA.out
    clear HA
    simp only [spec_MatrixOfSteps.l0] at H
    by_cases c10 : x8_1 < (a1.size : Int)
    ·rw [if_pos c10] at H
     have c10b0 : decide (x8_1 < (a1.size : Int)) = true := decide_eq_true c10
     clear c10
     by_cases c11 : 0 ≤ x8_1
     ·rw [if_pos c11] at H
      have c11b0 : decide (0 ≤ x8_1) = true := decide_eq_true c11
      clear c11
      by_cases c13 : (bt a1 x8_1) = 117
      ·rw [if_pos c13] at H
       have c13b0 : ((bt a1 x8_1) == 117) = true := beq_iff_eq.mpr c13
       have c13b1 : ((bt a1 x8_1) != 117) = false := bne_eq_false_iff_eq.mpr c13
       clear c13
       replace H := ob_ H
       obtain ⟨⟨t339, t340, t341, t342, t343⟩, A140, H⟩ := H
       have A14 := Aside0.mk A140
       clear A140
       by_cases c15 : t343 = true
       ·subst c15
        have H1 : (spec_MatrixOfSteps.l0 k1 a0 a1 (wrap64 (x8_1 + 1)) t339 t340 t341 t342) = some (r1, r2, r3, r4, r5) := by rw [if_pos rfl] at H; exact H
        clear H
        have H := H1
        clear H1
        have H' := Aside0.mk H
        clear H
        go_wp2_with (first | ((refine gd_ 9 ?_); refine bx_ 9 #[.int .i64 0, .int .i64 0, .int .i64 0, .int .i64 0] 46 ?_; intro gb338 hg w16 BK338 hb; have GW338 := bs_ HB hg; have GE338 := bs_ HB hg; have NB335_338 := bm_ BK335 hg; have NB338_335 := bn_ BK335 hg; have NB337_338 := bm_ BK337 hg; have NB338_337 := bn_ BK337 hg; replace BK335 := bb_ BK335 hb; replace BK337 := bb_ BK337 hb; replace HB := bt_ HB hb; clear hb hg; have hnb17 := NB338_335.out; have hnc17 := NB335_338.out; have hnb18 := NB338_337.out; have hnc18 := NB337_338.out; obtain ⟨hcz19_0, hcz19_1, hcz19_2, hcz19_3, hfz19_0, hfz19_1, hfz19_2, hfz19_3⟩ := ch4_ BK338; have p12 : 0 ≤ (x8_1 : Int) := od_; have q12 : x8_1 < (a1.size : Int) := od_; have hx12 := bt_at a1 x8_1; replace p12 := eq_true p12; replace q12 := eq_true q12; have hnb20 := NB337_335.out; have hnc20 := NB335_337.out; obtain ⟨hcz21_0, hcz21_1, hcz21_2, hcz21_3, hfz21_0, hfz21_1, hfz21_2, hfz21_3⟩ := ch4_ BK337) | ((refine gc_ 93 ?_); refine ge_ 48 Try.func93 #[.agg #[.int .i64 x338000_1, .int .i64 x338001_1, .int .i64 x338002_1, .int .i64 x338003_1], .agg #[.int .i64 1, .int .i64 0, .int .i64 0, .int .i64 a0]] ?_; (with_reducible refine (spec_l04Times.calls k1 x338000_1 x338001_1 x338002_1 x338003_1 1 0 0 a0 t339 t340 t341 t342 true _ A14.out).mono ?_); rintro e w22 ⟨rfl, hb⟩; refine ⟨_, rfl, ?_⟩; replace BK335 := fb_ BK335 NB335_338 hb; replace BK337 := fb_ BK337 NB337_338 hb; replace BK338 := Aside0.mk (blk_below (g := gb338) (o := .cells #[.int .i64 1, .int .i64 0, .int .i64 0, .int .i64 a0] 46 (0, 0)) (bp_ BK338).out hb); replace HB := bt_ HB hb; (try clear hb)) | ((refine gd_ 10 ?_); refine bx_ 10 #[.int .i64 0, .int .i64 0, .int .i64 0, .int .i64 0] 46 ?_; intro gb344 hg w23 BK344 hb; have GW344 := bs_ HB hg; have GE344 := bs_ HB hg; have NB335_344 := bm_ BK335 hg; have NB344_335 := bn_ BK335 hg; have NB337_344 := bm_ BK337 hg; have NB344_337 := bn_ BK337 hg; have NB338_344 := bm_ BK338 hg; have NB344_338 := bn_ BK338 hg; replace BK335 := bb_ BK335 hb; replace BK337 := bb_ BK337 hb; replace BK338 := bb_ BK338 hb; replace HB := bt_ HB hb; clear hb hg; have hnb24 := NB344_335.out; have hnc24 := NB335_344.out; have hnb25 := NB344_337.out; have hnc25 := NB337_344.out; have hnb26 := NB344_338.out; have hnc26 := NB338_344.out; obtain ⟨hcz27_0, hcz27_1, hcz27_2, hcz27_3, hfz27_0, hfz27_1, hfz27_2, hfz27_3⟩ := ch4_ BK344; obtain ⟨hcz28_0, hcz28_1, hcz28_2, hcz28_3, hfz28_0, hfz28_1, hfz28_2, hfz28_3⟩ := ch4_ BK337))
        go_roundg k1
        case measure => have := HK1.out; omega
        case rel => exact ⟨(wrap64 (x8_1 + 1)), (x336000_1), (x336001_1), (x336002_1), (x336003_1), (t339), (t340), (t341), (t342), en_, H', ⟨by have := HK1.out; omega⟩, bp_ BK335, bp_ BK337, bw_ HB⟩
       ·replace c15 := Bool.eq_false_iff.mpr c15
        subst c15
        have H1 : (some (0, 0, 0, 0, 3)) = some (r1, r2, r3, r4, r5) := by rw [if_neg (show ¬ (false = true) by decide)] at H; exact H
        clear H
        have H := H1
        clear H1
        simp only [Option.some.injEq, Prod.mk.injEq] at H
        obtain ⟨rfl, rfl, rfl, rfl, rfl⟩ := H
        go_wp2_with (first | ((refine gd_ 9 ?_); refine bx_ 9 #[.int .i64 0, .int .i64 0, .int .i64 0, .int .i64 0] 46 ?_; intro gb338 hg w29 BK338 hb; have GW338 := bs_ HB hg; have GE338 := bs_ HB hg; have NB335_338 := bm_ BK335 hg; have NB338_335 := bn_ BK335 hg; have NB337_338 := bm_ BK337 hg; have NB338_337 := bn_ BK337 hg; replace BK335 := bb_ BK335 hb; replace BK337 := bb_ BK337 hb; replace HB := bt_ HB hb; clear hb hg; have hnb30 := NB338_335.out; have hnc30 := NB335_338.out; have hnb31 := NB338_337.out; have hnc31 := NB337_338.out; obtain ⟨hcz32_0, hcz32_1, hcz32_2, hcz32_3, hfz32_0, hfz32_1, hfz32_2, hfz32_3⟩ := ch4_ BK338; have p12 : 0 ≤ (x8_1 : Int) := od_; have q12 : x8_1 < (a1.size : Int) := od_; have hx12 := bt_at a1 x8_1; replace p12 := eq_true p12; replace q12 := eq_true q12; have hnb33 := NB337_335.out; have hnc33 := NB335_337.out; obtain ⟨hcz34_0, hcz34_1, hcz34_2, hcz34_3, hfz34_0, hfz34_1, hfz34_2, hfz34_3⟩ := ch4_ BK337) | ((refine gc_ 93 ?_); refine ge_ 48 Try.func93 #[.agg #[.int .i64 x338000_1, .int .i64 x338001_1, .int .i64 x338002_1, .int .i64 x338003_1], .agg #[.int .i64 1, .int .i64 0, .int .i64 0, .int .i64 a0]] ?_; (with_reducible refine (spec_l04Times.calls k1 x338000_1 x338001_1 x338002_1 x338003_1 1 0 0 a0 t339 t340 t341 t342 false _ A14.out).mono ?_); rintro e w35 ⟨rfl, hb⟩; refine ⟨_, rfl, ?_⟩; replace BK335 := fb_ BK335 NB335_338 hb; replace BK337 := fb_ BK337 NB337_338 hb; replace BK338 := Aside0.mk (blk_below (g := gb338) (o := .cells #[.int .i64 1, .int .i64 0, .int .i64 0, .int .i64 a0] 46 (0, 0)) (bp_ BK338).out hb); replace HB := bt_ HB hb; (try clear hb)) | ((refine gd_ 10 ?_); refine bx_ 10 #[.int .i64 0, .int .i64 0, .int .i64 0, .int .i64 0] 46 ?_; intro gb344 hg w36 BK344 hb; have GW344 := bs_ HB hg; have GE344 := bs_ HB hg; have NB335_344 := bm_ BK335 hg; have NB344_335 := bn_ BK335 hg; have NB337_344 := bm_ BK337 hg; have NB344_337 := bn_ BK337 hg; have NB338_344 := bm_ BK338 hg; have NB344_338 := bn_ BK338 hg; replace BK335 := bb_ BK335 hb; replace BK337 := bb_ BK337 hb; replace BK338 := bb_ BK338 hb; replace HB := bt_ HB hb; clear hb hg; have hnb37 := NB344_335.out; have hnc37 := NB335_344.out; have hnb38 := NB344_337.out; have hnc38 := NB337_344.out; have hnb39 := NB344_338.out; have hnc39 := NB338_344.out; obtain ⟨hcz40_0, hcz40_1, hcz40_2, hcz40_3, hfz40_0, hfz40_1, hfz40_2, hfz40_3⟩ := ch4_ BK344; obtain ⟨hcz41_0, hcz41_1, hcz41_2, hcz41_3, hfz41_0, hfz41_1, hfz41_2, hfz41_3⟩ := ch4_ BK335))
        refine bodyPost_ret (results_ct rfl _ _ gb335 46 #[.int .i64 0, .int .i64 0, .int .i64 0, .int .i64 0] (0, 0) _ rfl (bp_ BK335).out Try.underlying46 rfl (by kernel_rfl)) rfl ?_
        exact ⟨es_, (bw_ HB).out⟩
      ·rw [if_neg c13] at H
       have c13b0 : ((bt a1 x8_1) == 117) = false := beq_eq_false_iff_ne.mpr c13
       have c13b1 : ((bt a1 x8_1) != 117) = true := bne_iff_ne.mpr c13
       replace H := ob_ H
       obtain ⟨⟨t345, t346, t347, t348, t349⟩, A430, H⟩ := H
       have A43 := Aside0.mk A430
       clear A430
       by_cases c44 : t349 = true
       ·subst c44
        have H1 : (spec_MatrixOfSteps.l0 k1 a0 a1 (wrap64 (x8_1 + 1)) t345 t346 t347 t348) = some (r1, r2, r3, r4, r5) := by rw [if_pos rfl] at H; exact H
        clear H
        have H := H1
        clear H1
        have H' := Aside0.mk H
        clear H
        go_wp2_with (first | ((refine gd_ 9 ?_); refine bx_ 9 #[.int .i64 0, .int .i64 0, .int .i64 0, .int .i64 0] 46 ?_; intro gb338 hg w45 BK338 hb; have GW338 := bs_ HB hg; have GE338 := bs_ HB hg; have NB335_338 := bm_ BK335 hg; have NB338_335 := bn_ BK335 hg; have NB337_338 := bm_ BK337 hg; have NB338_337 := bn_ BK337 hg; replace BK335 := bb_ BK335 hb; replace BK337 := bb_ BK337 hb; replace HB := bt_ HB hb; clear hb hg; have hnb46 := NB338_335.out; have hnc46 := NB335_338.out; have hnb47 := NB338_337.out; have hnc47 := NB337_338.out; obtain ⟨hcz48_0, hcz48_1, hcz48_2, hcz48_3, hfz48_0, hfz48_1, hfz48_2, hfz48_3⟩ := ch4_ BK338; have p12 : 0 ≤ (x8_1 : Int) := od_; have q12 : x8_1 < (a1.size : Int) := od_; have hx12 := bt_at a1 x8_1; replace p12 := eq_true p12; replace q12 := eq_true q12; have p42 : 0 ≤ (x8_1 : Int) := od_; have q42 : x8_1 < (a1.size : Int) := od_; have hx42 := bt_at a1 x8_1; replace p42 := eq_true p42; replace q42 := eq_true q42; have hnb49 := NB337_335.out; have hnc49 := NB335_337.out; obtain ⟨hcz50_0, hcz50_1, hcz50_2, hcz50_3, hfz50_0, hfz50_1, hfz50_2, hfz50_3⟩ := ch4_ BK337) | ((refine gc_ 93 ?_); refine ge_ 48 Try.func93 #[.agg #[.int .i64 x338000_1, .int .i64 x338001_1, .int .i64 x338002_1, .int .i64 x338003_1], .agg #[.int .i64 a0, .int .i64 (wrap64 ((wrap64 (bt a1 x8_1)) - 48)), .int .i64 0, .int .i64 1]] ?_; (with_reducible refine (spec_l04Times.calls k1 x338000_1 x338001_1 x338002_1 x338003_1 a0 (wrap64 ((wrap64 (bt a1 x8_1)) - 48)) 0 1 t345 t346 t347 t348 true _ A43.out).mono ?_); rintro e w51 ⟨rfl, hb⟩; refine ⟨_, rfl, ?_⟩; replace BK335 := fb_ BK335 NB335_338 hb; replace BK337 := fb_ BK337 NB337_338 hb; replace BK338 := Aside0.mk (blk_below (g := gb338) (o := .cells #[.int .i64 a0, .int .i64 (wrap64 ((wrap64 (bt a1 x8_1)) - 48)), .int .i64 0, .int .i64 1] 46 (0, 0)) (bp_ BK338).out hb); replace HB := bt_ HB hb; (try clear hb)) | ((refine gd_ 10 ?_); refine bx_ 10 #[.int .i64 0, .int .i64 0, .int .i64 0, .int .i64 0] 46 ?_; intro gb350 hg w52 BK350 hb; have GW350 := bs_ HB hg; have GE350 := bs_ HB hg; have NB335_350 := bm_ BK335 hg; have NB350_335 := bn_ BK335 hg; have NB337_350 := bm_ BK337 hg; have NB350_337 := bn_ BK337 hg; have NB338_350 := bm_ BK338 hg; have NB350_338 := bn_ BK338 hg; replace BK335 := bb_ BK335 hb; replace BK337 := bb_ BK337 hb; replace BK338 := bb_ BK338 hb; replace HB := bt_ HB hb; clear hb hg; have hnb53 := NB350_335.out; have hnc53 := NB335_350.out; have hnb54 := NB350_337.out; have hnc54 := NB337_350.out; have hnb55 := NB350_338.out; have hnc55 := NB338_350.out; obtain ⟨hcz56_0, hcz56_1, hcz56_2, hcz56_3, hfz56_0, hfz56_1, hfz56_2, hfz56_3⟩ := ch4_ BK350; obtain ⟨hcz57_0, hcz57_1, hcz57_2, hcz57_3, hfz57_0, hfz57_1, hfz57_2, hfz57_3⟩ := ch4_ BK337))
        go_roundg k1
        case measure => have := HK1.out; omega
        case rel => exact ⟨(wrap64 (x8_1 + 1)), (x336000_1), (x336001_1), (x336002_1), (x336003_1), (t345), (t346), (t347), (t348), en_, H', ⟨by have := HK1.out; omega⟩, bp_ BK335, bp_ BK337, bw_ HB⟩
       ·replace c44 := Bool.eq_false_iff.mpr c44
        subst c44
        have H1 : (some (0, 0, 0, 0, 3)) = some (r1, r2, r3, r4, r5) := by rw [if_neg (show ¬ (false = true) by decide)] at H; exact H
        clear H
        have H := H1
        clear H1
        simp only [Option.some.injEq, Prod.mk.injEq] at H
        obtain ⟨rfl, rfl, rfl, rfl, rfl⟩ := H
        go_wp2_with (first | ((refine gd_ 9 ?_); refine bx_ 9 #[.int .i64 0, .int .i64 0, .int .i64 0, .int .i64 0] 46 ?_; intro gb338 hg w58 BK338 hb; have GW338 := bs_ HB hg; have GE338 := bs_ HB hg; have NB335_338 := bm_ BK335 hg; have NB338_335 := bn_ BK335 hg; have NB337_338 := bm_ BK337 hg; have NB338_337 := bn_ BK337 hg; replace BK335 := bb_ BK335 hb; replace BK337 := bb_ BK337 hb; replace HB := bt_ HB hb; clear hb hg; have hnb59 := NB338_335.out; have hnc59 := NB335_338.out; have hnb60 := NB338_337.out; have hnc60 := NB337_338.out; obtain ⟨hcz61_0, hcz61_1, hcz61_2, hcz61_3, hfz61_0, hfz61_1, hfz61_2, hfz61_3⟩ := ch4_ BK338; have p12 : 0 ≤ (x8_1 : Int) := od_; have q12 : x8_1 < (a1.size : Int) := od_; have hx12 := bt_at a1 x8_1; replace p12 := eq_true p12; replace q12 := eq_true q12; have p42 : 0 ≤ (x8_1 : Int) := od_; have q42 : x8_1 < (a1.size : Int) := od_; have hx42 := bt_at a1 x8_1; replace p42 := eq_true p42; replace q42 := eq_true q42; have hnb62 := NB337_335.out; have hnc62 := NB335_337.out; obtain ⟨hcz63_0, hcz63_1, hcz63_2, hcz63_3, hfz63_0, hfz63_1, hfz63_2, hfz63_3⟩ := ch4_ BK337) | ((refine gc_ 93 ?_); refine ge_ 48 Try.func93 #[.agg #[.int .i64 x338000_1, .int .i64 x338001_1, .int .i64 x338002_1, .int .i64 x338003_1], .agg #[.int .i64 a0, .int .i64 (wrap64 ((wrap64 (bt a1 x8_1)) - 48)), .int .i64 0, .int .i64 1]] ?_; (with_reducible refine (spec_l04Times.calls k1 x338000_1 x338001_1 x338002_1 x338003_1 a0 (wrap64 ((wrap64 (bt a1 x8_1)) - 48)) 0 1 t345 t346 t347 t348 false _ A43.out).mono ?_); rintro e w64 ⟨rfl, hb⟩; refine ⟨_, rfl, ?_⟩; replace BK335 := fb_ BK335 NB335_338 hb; replace BK337 := fb_ BK337 NB337_338 hb; replace BK338 := Aside0.mk (blk_below (g := gb338) (o := .cells #[.int .i64 a0, .int .i64 (wrap64 ((wrap64 (bt a1 x8_1)) - 48)), .int .i64 0, .int .i64 1] 46 (0, 0)) (bp_ BK338).out hb); replace HB := bt_ HB hb; (try clear hb)) | ((refine gd_ 10 ?_); refine bx_ 10 #[.int .i64 0, .int .i64 0, .int .i64 0, .int .i64 0] 46 ?_; intro gb350 hg w65 BK350 hb; have GW350 := bs_ HB hg; have GE350 := bs_ HB hg; have NB335_350 := bm_ BK335 hg; have NB350_335 := bn_ BK335 hg; have NB337_350 := bm_ BK337 hg; have NB350_337 := bn_ BK337 hg; have NB338_350 := bm_ BK338 hg; have NB350_338 := bn_ BK338 hg; replace BK335 := bb_ BK335 hb; replace BK337 := bb_ BK337 hb; replace BK338 := bb_ BK338 hb; replace HB := bt_ HB hb; clear hb hg; have hnb66 := NB350_335.out; have hnc66 := NB335_350.out; have hnb67 := NB350_337.out; have hnc67 := NB337_350.out; have hnb68 := NB350_338.out; have hnc68 := NB338_350.out; obtain ⟨hcz69_0, hcz69_1, hcz69_2, hcz69_3, hfz69_0, hfz69_1, hfz69_2, hfz69_3⟩ := ch4_ BK350; obtain ⟨hcz70_0, hcz70_1, hcz70_2, hcz70_3, hfz70_0, hfz70_1, hfz70_2, hfz70_3⟩ := ch4_ BK335))
        refine bodyPost_ret (results_ct rfl _ _ gb335 46 #[.int .i64 0, .int .i64 0, .int .i64 0, .int .i64 0] (0, 0) _ rfl (bp_ BK335).out Try.underlying46 rfl (by kernel_rfl)) rfl ?_
        exact ⟨es_, (bw_ HB).out⟩
     ·rw [if_neg c11] at H
      exact absurd H (by simp)
    ·rw [if_neg c10] at H
     have c10b0 : decide (x8_1 < (a1.size : Int)) = false := decide_eq_false c10
     clear c10
     simp only [Option.some.injEq, Prod.mk.injEq] at H
     obtain ⟨rfl, rfl, rfl, rfl, rfl⟩ := H
     have hnb71 := NB337_335.out
     have hnc71 := NB335_337.out
     obtain ⟨hcz72_0, hcz72_1, hcz72_2, hcz72_3, hfz72_0, hfz72_1, hfz72_2, hfz72_3⟩ := ch4_ BK337
     obtain ⟨hcz73_0, hcz73_1, hcz73_2, hcz73_3, hfz73_0, hfz73_1, hfz73_2, hfz73_3⟩ := ch4_ BK335
     go_wp2
     refine bodyPost_ret (results_ct rfl _ _ gb335 46 #[.int .i64 x338000_1, .int .i64 x338001_1, .int .i64 x338002_1, .int .i64 x338003_1] (0, 0) _ rfl (bp_ BK335).out Try.underlying46 rfl (by kernel_rfl)) rfl ?_
     exact ⟨es_, (bw_ HB).out⟩
 ·rw [if_neg c4] at H
  have c4b0 : (t336 == 0) = false := beq_eq_false_iff_ne.mpr c4
  have c4b1 : (t336 != 0) = true := bne_iff_ne.mpr c4
  simp only [Option.some.injEq, Prod.mk.injEq] at H
  obtain ⟨rfl, rfl, rfl, rfl, rfl⟩ := H
  go_enter Try.func23, Try.ntmps23
  go_wp2_with (first | ((refine gd_ 4 ?_); refine bx_ 4 #[.int .i64 0, .int .i64 0, .int .i64 0, .int .i64 0] 46 ?_; intro gb335 hg w74 BK335 hb; have GW335 := bs_ HB hg; have GE335 := bs_ HB hg; replace HB := bt_ HB hb; clear hb hg) | ((refine gc_ 78 ?_); refine ge_ 14 Try.func78 #[.int .i64 a0, .string a1, .slice none 0 0] ?_; (refine (spec_l10Code.calls k a0 a1 _ _ ([] : List (S25)) t336 _ ?side1 ?side2 A3.out).mono ?_); (case side1 => exact Kd.C_nil _ _); (case side2 => exact Nat.le_refl _); rintro e w75 ⟨rfl, hb⟩; refine ⟨_, rfl, ?_⟩; replace BK335 := bb_ BK335 hb; replace HB := bt_ HB hb; (try clear hb); obtain ⟨hcz76_0, hcz76_1, hcz76_2, hcz76_3, hfz76_0, hfz76_1, hfz76_2, hfz76_3⟩ := ch4_ BK335))
  refine bodyPost_ret (results_ct rfl _ _ gb335 46 #[.int .i64 0, .int .i64 0, .int .i64 0, .int .i64 0] (0, 0) _ rfl (bp_ BK335).out Try.underlying46 rfl (by kernel_rfl)) rfl ?_
  exact ⟨es_, (bw_ HB).out⟩
/-! ### impl_fitted: function 95 -/
def impl_fitted.f (a0_0 : Int) (a0_1 : Int) (a0_2 : Int) (a1 : Bool) : Option (Int × Int × Int × Int) := if a1 = true then (some (a0_0, a0_1, a0_2, 0)) else (some (0, 0, 0, 3))
theorem impl_fitted.calls (a0_0 : Int) (a0_1 : Int) (a0_2 : Int) (a1 : Bool) (r1 : Int) (r2 : Int) (r3 : Int) (r4 : Int) (w : World) (h : impl_fitted.f a0_0 a0_1 a0_2 a1 = some (r1, r2, r3, r4)) :
  Calls Try.prog 95 #[.agg #[.int .i64 a0_0, .int .i64 a0_1, .int .i64 a0_2], .bool a1] w fun e w' => e = .returned (.tuple #[.agg #[.int .i64 r1, .int .i64 r2, .int .i64 r3], .int .i64 r4]) ∧ Below w.heap.size w w' := by
 have hu25 := Try.underlying25
 have HB := Aside0.mk (Below.refl w.heap.size w)
 have H : (if a1 = true then (some (a0_0, a0_1, a0_2, 0)) else (some (0, 0, 0, 3))) = some (r1, r2, r3, r4) := h
 clear h
 by_cases c3 : a1 = true
 ·subst c3
  have H1 : (some (a0_0, a0_1, a0_2, 0)) = some (r1, r2, r3, r4) := by rw [if_pos rfl] at H; exact H
  clear H
  have H := H1
  clear H1
  simp only [Option.some.injEq, Prod.mk.injEq] at H
  obtain ⟨rfl, rfl, rfl, rfl⟩ := H
  go_enter Try.func95, Try.ntmps95
  go_wp2_with (first | ((refine gd_ 2 ?_); refine bx_ 2 #[.int .i64 a0_0, .int .i64 a0_1, .int .i64 a0_2] 25 ?_; intro gb351 hg w4 BK351 hb; have GW351 := bs_ HB hg; have GE351 := bs_ HB hg; replace HB := bt_ HB hb; clear hb hg) | ((refine gd_ 4 ?_); refine bx_ 4 #[.int .i64 0, .int .i64 0, .int .i64 0] 25 ?_; intro gb352 hg w5 BK352 hb; have GW352 := bs_ HB hg; have GE352 := bs_ HB hg; have NB351_352 := bm_ BK351 hg; have NB352_351 := bn_ BK351 hg; replace BK351 := bb_ BK351 hb; replace HB := bt_ HB hb; clear hb hg; have hnb6 := NB351_352.out; have hnc6 := NB352_351.out; obtain ⟨hcz7_0, hcz7_1, hcz7_2, hfz7_0, hfz7_1, hfz7_2⟩ := ch3_ BK351; obtain ⟨hcz8_0, hcz8_1, hcz8_2, hfz8_0, hfz8_1, hfz8_2⟩ := ch3_ BK352))
  refine bodyPost_ret (results_ct rfl _ _ gb352 25 #[.int .i64 a0_0, .int .i64 a0_1, .int .i64 a0_2] (0, 0) _ rfl (bp_ BK352).out Try.underlying25 rfl (by kernel_rfl)) rfl ?_
  exact ⟨es_, (bw_ HB).out⟩
 ·replace c3 := Bool.eq_false_iff.mpr c3
  subst c3
  have H1 : (some (0, 0, 0, 3)) = some (r1, r2, r3, r4) := by rw [if_neg (show ¬ (false = true) by decide)] at H; exact H
  clear H
  have H := H1
  clear H1
  simp only [Option.some.injEq, Prod.mk.injEq] at H
  obtain ⟨rfl, rfl, rfl, rfl⟩ := H
  go_enter Try.func95, Try.ntmps95
  go_wp2_with (first | ((refine gd_ 2 ?_); refine bx_ 2 #[.int .i64 a0_0, .int .i64 a0_1, .int .i64 a0_2] 25 ?_; intro gb351 hg w9 BK351 hb; have GW351 := bs_ HB hg; have GE351 := bs_ HB hg; replace HB := bt_ HB hb; clear hb hg) | ((refine gd_ 4 ?_); refine bx_ 4 #[.int .i64 0, .int .i64 0, .int .i64 0] 25 ?_; intro gb352 hg w10 BK352 hb; have GW352 := bs_ HB hg; have GE352 := bs_ HB hg; have NB351_352 := bm_ BK351 hg; have NB352_351 := bn_ BK351 hg; replace BK351 := bb_ BK351 hb; replace HB := bt_ HB hb; clear hb hg; have hnb11 := NB352_351.out; have hnc11 := NB351_352.out; obtain ⟨hcz12_0, hcz12_1, hcz12_2, hfz12_0, hfz12_1, hfz12_2⟩ := ch3_ BK352))
  refine bodyPost_ret (results_ct rfl _ _ gb352 25 #[.int .i64 0, .int .i64 0, .int .i64 0] (0, 0) _ rfl (bp_ BK352).out Try.underlying25 rfl (by kernel_rfl)) rfl ?_
  exact ⟨es_, (bw_ HB).out⟩
/-! ### bits_Mul64: function 202 -/
def bits_Mul64.f (a0 : Int) (a1 : Int) : Option (Int × Int) := some (IntKind.u64.wrap ((IntKind.u64.wrap ((IntKind.u64.wrap ((a0 / 4294967296) * (a1 / 4294967296))) + ((IntKind.u64.wrap ((IntKind.u64.wrap ((a0 / 4294967296) * (Go.bits .and .u64 a1 4294967295))) + ((IntKind.u64.wrap ((Go.bits .and .u64 a0 4294967295) * (Go.bits .and .u64 a1 4294967295))) / 4294967296))) / 4294967296))) + ((IntKind.u64.wrap ((Go.bits .and .u64 (IntKind.u64.wrap ((IntKind.u64.wrap ((a0 / 4294967296) * (Go.bits .and .u64 a1 4294967295))) + ((IntKind.u64.wrap ((Go.bits .and .u64 a0 4294967295) * (Go.bits .and .u64 a1 4294967295))) / 4294967296))) 4294967295) + (IntKind.u64.wrap ((Go.bits .and .u64 a0 4294967295) * (a1 / 4294967296))))) / 4294967296)), IntKind.u64.wrap (a0 * a1))
theorem bits_Mul64.calls (a0 : Int) (a1 : Int) (r1 : Int) (r2 : Int) (w : World) (h : bits_Mul64.f a0 a1 = some (r1, r2)) :
  Calls Try.prog 202 #[.int .u64 a0, .int .u64 a1] w fun e w' => e = .returned (.tuple #[.int .u64 r1, .int .u64 r2]) ∧ Drawn0 w w' := by
 have H : (some (IntKind.u64.wrap ((IntKind.u64.wrap ((IntKind.u64.wrap ((a0 / 4294967296) * (a1 / 4294967296))) + ((IntKind.u64.wrap ((IntKind.u64.wrap ((a0 / 4294967296) * (Go.bits .and .u64 a1 4294967295))) + ((IntKind.u64.wrap ((Go.bits .and .u64 a0 4294967295) * (Go.bits .and .u64 a1 4294967295))) / 4294967296))) / 4294967296))) + ((IntKind.u64.wrap ((Go.bits .and .u64 (IntKind.u64.wrap ((IntKind.u64.wrap ((a0 / 4294967296) * (Go.bits .and .u64 a1 4294967295))) + ((IntKind.u64.wrap ((Go.bits .and .u64 a0 4294967295) * (Go.bits .and .u64 a1 4294967295))) / 4294967296))) 4294967295) + (IntKind.u64.wrap ((Go.bits .and .u64 a0 4294967295) * (a1 / 4294967296))))) / 4294967296)), IntKind.u64.wrap (a0 * a1))) = some (r1, r2) := h
 clear h
 simp only [Option.some.injEq, Prod.mk.injEq] at H
 obtain ⟨rfl, rfl⟩ := H
 go_enter Try.func202, Try.ntmps202
 go_wp2
 go_ret2
 exact ⟨en_, de_⟩
end Go.Proofs.Ytgoeelhiffbjlaa.QT
