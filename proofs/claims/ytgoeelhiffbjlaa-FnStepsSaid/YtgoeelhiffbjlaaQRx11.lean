import Derived.Test.YtgoeelhiffbjlaaQRx8
namespace Go.Proofs.Ytgoeelhiffbjlaa.QR
set_option maxHeartbeats 8000000
set_option maxRecDepth 100000
open Go.RowKit Go.Proofs.YtgoeelhiffbjlaaW.PrintWords Go.Proofs.YtgoeelhiffbjlaaW.PrintLast Go.Proofs.YtgoeelhiffbjlaaW.PrintMore
attribute [local go_sem] isSome_setCell max2_int min2_int max_two min_two max_three min_three max_four min_four
set_option linter.unusedVariables false
set_option linter.unusedSimpArgs false

/-! ### spec_l01MulMod: function 194 -/
def spec_l01MulMod.f (a0 : Int) (a1 : Int) (a2 : Int) : Option (Int) := if a2 = 0 then (none) else (some (Int.tmod (wrap64 ((Int.tmod (wrap64 ((Int.tmod (wrap64 ((Int.tmod (wrap64 ((Int.tmod a0 a2) + a2)) a2) * (wrap64 (Int.tdiv (Int.tmod (wrap64 ((Int.tmod a1 a2) + a2)) a2) 1000000)))) a2) * 1000000)) a2) + (Int.tmod (wrap64 ((Int.tmod (wrap64 ((Int.tmod a0 a2) + a2)) a2) * (Int.tmod (Int.tmod (wrap64 ((Int.tmod a1 a2) + a2)) a2) 1000000))) a2))) a2))
theorem spec_l01MulMod.calls (a0 : Int) (a1 : Int) (a2 : Int) (r : Int) (w : World) (h : spec_l01MulMod.f a0 a1 a2 = some r) :
  Calls Try.prog 194 #[.int .i64 a0, .int .i64 a1, .int .i64 a2] w fun e w' => e = .returned (.int .i64 r) ∧ Drawn0 w w' := by
 have H : (if a2 = 0 then (none) else (some (Int.tmod (wrap64 ((Int.tmod (wrap64 ((Int.tmod (wrap64 ((Int.tmod (wrap64 ((Int.tmod a0 a2) + a2)) a2) * (wrap64 (Int.tdiv (Int.tmod (wrap64 ((Int.tmod a1 a2) + a2)) a2) 1000000)))) a2) * 1000000)) a2) + (Int.tmod (wrap64 ((Int.tmod (wrap64 ((Int.tmod a0 a2) + a2)) a2) * (Int.tmod (Int.tmod (wrap64 ((Int.tmod a1 a2) + a2)) a2) 1000000))) a2))) a2))) = some r := h
 clear h
 by_cases c4 : a2 = 0
 ·rw [if_pos c4] at H
  exact absurd H (by simp)
 ·rw [if_neg c4] at H
  have c4b0 : (a2 == 0) = false := beq_eq_false_iff_ne.mpr c4
  have c4b1 : (a2 != 0) = true := bne_iff_ne.mpr c4
  obtain rfl := si_ H
  go_enter Try.func194, Try.ntmps194
  go_wp2
  repeat (go_quiet (fail); try go_wp2)
  go_ret
  exact ⟨en_, de_⟩
/-! ### spec_l01InvMod: function 195 -/
def spec_l01InvMod.l0 : Nat → Int → Int → Int → Int → Int → Option (Int)
 | 0, _, _, _, _, _ => none
 | k + 1, x1, x5, x6, x7, x8 => if x6 = 0 then (if x1 = 0 then (none) else (some (Int.tmod (wrap64 ((Int.tmod x7 x1) + x1)) x1))) else (spec_l01InvMod.l0 k x1 x6 (wrap64 (x5 - (wrap64 ((wrap64 (Int.tdiv x5 x6)) * x6)))) x8 (wrap64 (x7 - (wrap64 ((wrap64 (Int.tdiv x5 x6)) * x8)))))
def spec_l01InvMod.f (k : Nat) (a0 : Int) (a1 : Int) : Option (Int) := if a1 = 0 then (none) else (spec_l01InvMod.l0 k a1 (Int.tmod (wrap64 ((Int.tmod a0 a1) + a1)) a1) a1 1 0)
theorem spec_l01InvMod.calls (k : Nat) (a0 : Int) (a1 : Int) (r : Int) (w : World) (h : spec_l01InvMod.f k a0 a1 = some r) :
  Calls Try.prog 195 #[.int .i64 a0, .int .i64 a1] w fun e w' => e = .returned (.int .i64 r) ∧ Drawn0 w w' := by
 have H : (if a1 = 0 then (none) else (spec_l01InvMod.l0 k a1 (Int.tmod (wrap64 ((Int.tmod a0 a1) + a1)) a1) a1 1 0)) = some r := h
 clear h
 by_cases c3 : a1 = 0
 ·rw [if_pos c3] at H
  exact absurd H (by simp)
 ·rw [if_neg c3] at H
  have c3b0 : (a1 == 0) = false := beq_eq_false_iff_ne.mpr c3
  have c3b1 : (a1 != 0) = true := bne_iff_ne.mpr c3
  have H' := Aside0.mk H
  clear H
  go_enter Try.func195, Try.ntmps195
  go_wp2
  go_loopg [5, 6, 7, 8] k (fun kq v5 v6 v7 v8 w' => ∃ (x5_1 : Int) (x6_1 : Int) (x7_1 : Int) (x8_1 : Int), v5 = .int .i64 x5_1 ∧ v6 = .int .i64 x6_1 ∧ v7 = .int .i64 x7_1 ∧ v8 = .int .i64 x8_1 ∧ Aside0 (spec_l01InvMod.l0 kq a1 x5_1 x6_1 x7_1 x8_1 = some r) ∧ Aside0 (kq ≤ k) ∧ Drawn0 w w')
  case atStart => exact ⟨(Int.tmod (wrap64 ((Int.tmod a0 a1) + a1)) a1), (a1), (1), (0), en_, en_, en_, en_, H', ⟨Nat.le_refl _⟩, de_⟩
  case round =>
   clear H'
   try clear c1
   try clear p2
   try clear c3
   try clear c3b0
   try clear c3b1
   obtain ⟨x5_1, x6_1, x7_1, x8_1, rfl, rfl, rfl, rfl, HA, HK1, ⟨m1, rfl⟩⟩ := hrel
   cases gk with
   | zero => exact absurd HA.out (by simp [spec_l01InvMod.l0])
   | succ k1 =>
    have H := HA.out
    clear HA
    simp only [spec_l01InvMod.l0] at H
    by_cases c4 : x6_1 = 0
    ·rw [if_pos c4] at H
     have c4b0 : (x6_1 == 0) = true := beq_iff_eq.mpr c4
     have c4b1 : (x6_1 != 0) = false := bne_eq_false_iff_eq.mpr c4
     clear c4
     by_cases c5 : a1 = 0
     ·rw [if_pos c5] at H
      exact absurd H (by simp)
     ·rw [if_neg c5] at H
      have c5b0 : (a1 == 0) = false := beq_eq_false_iff_ne.mpr c5
      have c5b1 : (a1 != 0) = true := bne_iff_ne.mpr c5
      obtain rfl := si_ H
      go_wp2
      go_ret
      exact ⟨en_, de_⟩
    ·rw [if_neg c4] at H
     have c4b0 : (x6_1 == 0) = false := beq_eq_false_iff_ne.mpr c4
     have c4b1 : (x6_1 != 0) = true := bne_iff_ne.mpr c4
     have H' := Aside0.mk H
     clear H
     go_wp2
     go_roundg k1
     case measure => have := HK1.out; omega
     case rel => exact ⟨(x6_1), (wrap64 (x5_1 - (wrap64 ((wrap64 (Int.tdiv x5_1 x6_1)) * x6_1)))), (x8_1), (wrap64 (x7_1 - (wrap64 ((wrap64 (Int.tdiv x5_1 x6_1)) * x8_1)))), en_, en_, en_, en_, H', ⟨by have := HK1.out; omega⟩, de_⟩
/-! ### spec_l01Of: function 170 -/
def spec_l01Of.f (k : Nat) (a0 : Int) (a1 : Int) (a2 : Int) (a3 : Int) : Option (Int × Int × Int × Bool) := (spec_l01In.f a3 (-6) 6).bind fun t109 => (if t109 = true then (if a1 = 0 then (some (a3, 0, 0, true)) else ((spec_l01Val.f k a0 a1).bind fun t111 => ((spec_l01Val.f k a0 a2).bind fun t112 => (if a3 ≤ (wrap64 (t111 - t112)) then (some (a3, 0, 0, true)) else (if (mx (wrap64 (t112 - t111)) 0) > 6 then (some (0, 0, 0, false)) else ((spec_l01Power.f k a0 (wrap64 (a3 + (mx (wrap64 (t112 - t111)) 0)))).bind fun t113 => ((spec_l01Power.f k a0 t111).bind fun t114 => (if t114 = 0 then (none) else ((spec_l01Power.f k a0 t112).bind fun t115 => (if t115 = 0 then (none) else ((spec_l01InvMod.f k (wrap64 (Int.tdiv a2 t115)) t113).bind fun t116 => ((spec_l01MulMod.f (wrap64 (Int.tdiv a1 t114)) t116 t113).bind fun t117 => ((spec_l01Power.f k a0 (mx (wrap64 (t111 - t112)) 0)).bind fun t118 => ((spec_l01MulMod.f t117 t118 t113).bind fun t119 => (some (a3, t119, mx (wrap64 (t112 - t111)) 0, true)))))))))))))))) else (some (0, 0, 0, false)))
theorem spec_l01Of.calls (k : Nat) (a0 : Int) (a1 : Int) (a2 : Int) (a3 : Int) (r1 : Int) (r2 : Int) (r3 : Int) (r4 : Bool) (w : World) (h : spec_l01Of.f k a0 a1 a2 a3 = some (r1, r2, r3, r4)) :
  Calls Try.prog 170 #[.int .i64 a0, .int .i64 a1, .int .i64 a2, .int .i64 a3] w fun e w' => e = .returned (.tuple #[.agg #[.int .i64 r1, .int .i64 r2, .int .i64 r3], .bool r4]) ∧ Below w.heap.size w w' := by
 have hu25 := Try.underlying25
 have HB := Aside0.mk (Below.refl w.heap.size w)
 have H : ((spec_l01In.f a3 (-6) 6).bind fun t109 => (if t109 = true then (if a1 = 0 then (some (a3, 0, 0, true)) else ((spec_l01Val.f k a0 a1).bind fun t111 => ((spec_l01Val.f k a0 a2).bind fun t112 => (if a3 ≤ (wrap64 (t111 - t112)) then (some (a3, 0, 0, true)) else (if (mx (wrap64 (t112 - t111)) 0) > 6 then (some (0, 0, 0, false)) else ((spec_l01Power.f k a0 (wrap64 (a3 + (mx (wrap64 (t112 - t111)) 0)))).bind fun t113 => ((spec_l01Power.f k a0 t111).bind fun t114 => (if t114 = 0 then (none) else ((spec_l01Power.f k a0 t112).bind fun t115 => (if t115 = 0 then (none) else ((spec_l01InvMod.f k (wrap64 (Int.tdiv a2 t115)) t113).bind fun t116 => ((spec_l01MulMod.f (wrap64 (Int.tdiv a1 t114)) t116 t113).bind fun t117 => ((spec_l01Power.f k a0 (mx (wrap64 (t111 - t112)) 0)).bind fun t118 => ((spec_l01MulMod.f t117 t118 t113).bind fun t119 => (some (a3, t119, mx (wrap64 (t112 - t111)) 0, true)))))))))))))))) else (some (0, 0, 0, false)))) = some (r1, r2, r3, r4) := h
 clear h
 replace H := ob_ H
 obtain ⟨t109, A50, H⟩ := H
 have A5 := Aside0.mk A50
 clear A50
 by_cases c6 : t109 = true
 ·subst c6
  have H1 : (if a1 = 0 then (some (a3, 0, 0, true)) else ((spec_l01Val.f k a0 a1).bind fun t111 => ((spec_l01Val.f k a0 a2).bind fun t112 => (if a3 ≤ (wrap64 (t111 - t112)) then (some (a3, 0, 0, true)) else (if (mx (wrap64 (t112 - t111)) 0) > 6 then (some (0, 0, 0, false)) else ((spec_l01Power.f k a0 (wrap64 (a3 + (mx (wrap64 (t112 - t111)) 0)))).bind fun t113 => ((spec_l01Power.f k a0 t111).bind fun t114 => (if t114 = 0 then (none) else ((spec_l01Power.f k a0 t112).bind fun t115 => (if t115 = 0 then (none) else ((spec_l01InvMod.f k (wrap64 (Int.tdiv a2 t115)) t113).bind fun t116 => ((spec_l01MulMod.f (wrap64 (Int.tdiv a1 t114)) t116 t113).bind fun t117 => ((spec_l01Power.f k a0 (mx (wrap64 (t111 - t112)) 0)).bind fun t118 => ((spec_l01MulMod.f t117 t118 t113).bind fun t119 => (some (a3, t119, mx (wrap64 (t112 - t111)) 0, true)))))))))))))))) = some (r1, r2, r3, r4) := by rw [if_pos rfl] at H; exact H
  clear H
  have H := H1
  clear H1
  by_cases c7 : a1 = 0
  ·rw [if_pos c7] at H
   have c7b0 : (a1 == 0) = true := beq_iff_eq.mpr c7
   have c7b1 : (a1 != 0) = false := bne_eq_false_iff_eq.mpr c7
   clear c7
   simp only [Option.some.injEq, Prod.mk.injEq] at H
   obtain ⟨rfl, rfl, rfl, rfl⟩ := H
   go_enter Try.func170, Try.ntmps170
   go_wp2_with (first | ((refine gd_ 8 ?_); refine bx_ 8 #[.int .i64 0, .int .i64 0, .int .i64 0] 25 ?_; intro gb108 hg w8 BK108 hb; have GW108 := bs_ HB hg; have GE108 := bs_ HB hg; replace HB := bt_ HB hb; clear hb hg) | ((refine gc_ 109 ?_); refine ge_ 15 Try.func109 #[.int .i64 a3, .int .i64 (-6), .int .i64 6] ?_; (with_reducible refine (spec_l01In.calls a3 (-6) 6 true _ A5.out).mono ?_); rintro e w' ⟨rfl, ⟨nd, rfl⟩⟩; refine ⟨_, rfl, ?_⟩; (try (rw [drewN_self w8]; generalize hq_ : World.drewN w8 _ = w8; have n0_ := bq_ BK108 hq_; have n1_ := hq_' HB hq_; clear BK108 HB hq_; have BK108 := n0_; have HB := n1_; clear n0_ n1_))) | ((refine gd_ 10 ?_); refine bx_ 10 #[.int .i64 0, .int .i64 0, .int .i64 0] 25 ?_; intro gb110 hg w9 BK110 hb; have GW110 := bs_ HB hg; have GE110 := bs_ HB hg; have NB108_110 := bm_ BK108 hg; have NB110_108 := bn_ BK108 hg; replace BK108 := bb_ BK108 hb; replace HB := bt_ HB hb; clear hb hg; have hnb10 := NB110_108.out; have hnc10 := NB108_110.out; obtain ⟨hcz11_0, hcz11_1, hcz11_2, hfz11_0, hfz11_1, hfz11_2⟩ := ch3_ BK110; obtain ⟨hcz12_0, hcz12_1, hcz12_2, hfz12_0, hfz12_1, hfz12_2⟩ := ch3_ BK108))
   refine bodyPost_ret (results_ct rfl _ _ gb108 25 #[.int .i64 a3, .int .i64 0, .int .i64 0] (0, 0) _ rfl (bp_ BK108).out Try.underlying25 rfl (by kernel_rfl)) rfl ?_
   exact ⟨es_, (bw_ HB).out⟩
  ·rw [if_neg c7] at H
   have c7b0 : (a1 == 0) = false := beq_eq_false_iff_ne.mpr c7
   have c7b1 : (a1 != 0) = true := bne_iff_ne.mpr c7
   replace H := ob_ H
   obtain ⟨t111, A130, H⟩ := H
   have A13 := Aside0.mk A130
   clear A130
   replace H := ob_ H
   obtain ⟨t112, A140, H⟩ := H
   have A14 := Aside0.mk A140
   clear A140
   by_cases c15 : a3 ≤ (wrap64 (t111 - t112))
   ·rw [if_pos c15] at H
    have c15b0 : decide (a3 ≤ (wrap64 (t111 - t112))) = true := decide_eq_true c15
    clear c15
    simp only [Option.some.injEq, Prod.mk.injEq] at H
    obtain ⟨rfl, rfl, rfl, rfl⟩ := H
    go_enter Try.func170, Try.ntmps170
    go_wp2_with (first | ((refine gd_ 8 ?_); refine bx_ 8 #[.int .i64 0, .int .i64 0, .int .i64 0] 25 ?_; intro gb108 hg w16 BK108 hb; have GW108 := bs_ HB hg; have GE108 := bs_ HB hg; replace HB := bt_ HB hb; clear hb hg) | ((refine gc_ 109 ?_); refine ge_ 15 Try.func109 #[.int .i64 a3, .int .i64 (-6), .int .i64 6] ?_; (with_reducible refine (spec_l01In.calls a3 (-6) 6 true _ A5.out).mono ?_); rintro e w' ⟨rfl, ⟨nd, rfl⟩⟩; refine ⟨_, rfl, ?_⟩; (try (rw [drewN_self w16]; generalize hq_ : World.drewN w16 _ = w16; have n0_ := bq_ BK108 hq_; have n1_ := hq_' HB hq_; clear BK108 HB hq_; have BK108 := n0_; have HB := n1_; clear n0_ n1_))) | ((refine gd_ 10 ?_); refine bx_ 10 #[.int .i64 0, .int .i64 0, .int .i64 0] 25 ?_; intro gb110 hg w17 BK110 hb; have GW110 := bs_ HB hg; have GE110 := bs_ HB hg; have NB108_110 := bm_ BK108 hg; have NB110_108 := bn_ BK108 hg; replace BK108 := bb_ BK108 hb; replace HB := bt_ HB hb; clear hb hg; have hnb18 := NB110_108.out; have hnc18 := NB108_110.out; obtain ⟨hcz19_0, hcz19_1, hcz19_2, hfz19_0, hfz19_1, hfz19_2⟩ := ch3_ BK110) | ((refine gc_ 193 ?_); refine ge_ 25 Try.func193 #[.int .i64 a0, .int .i64 a1] ?_; (with_reducible refine (spec_l01Val.calls k a0 a1 t111 _ A13.out).mono ?_); rintro e w' ⟨rfl, ⟨nd, rfl⟩⟩; refine ⟨_, rfl, ?_⟩) | ((refine gc_ 193 ?_); refine ge_ 28 Try.func193 #[.int .i64 a0, .int .i64 a2] ?_; (with_reducible refine (spec_l01Val.calls k a0 a2 t112 _ A14.out).mono ?_); rintro e w' ⟨rfl, ⟨nd, rfl⟩⟩; refine ⟨_, rfl, ?_⟩; obtain ⟨hcz20_0, hcz20_1, hcz20_2, hfz20_0, hfz20_1, hfz20_2⟩ := ch3_ BK108))
    refine bodyPost_ret (results_ct rfl _ _ gb108 25 #[.int .i64 a3, .int .i64 0, .int .i64 0] (0, 0) _ rfl (bp_ BK108).out Try.underlying25 rfl (by kernel_rfl)) rfl ?_
    exact ⟨es_, (bw_ HB).out⟩
   ·rw [if_neg c15] at H
    have c15b0 : decide (a3 ≤ (wrap64 (t111 - t112))) = false := decide_eq_false c15
    clear c15
    obtain ⟨ji21, hji21⟩ : ∃ j_ : Int, (mx (wrap64 (t112 - t111)) 0) = j_ := ⟨_, rfl⟩
    replace H : (if (ji21) > 6 then (some (0, 0, 0, false)) else ((spec_l01Power.f k a0 (wrap64 (a3 + (ji21)))).bind fun t113 => ((spec_l01Power.f k a0 t111).bind fun t114 => (if t114 = 0 then (none) else ((spec_l01Power.f k a0 t112).bind fun t115 => (if t115 = 0 then (none) else ((spec_l01InvMod.f k (wrap64 (Int.tdiv a2 t115)) t113).bind fun t116 => ((spec_l01MulMod.f (wrap64 (Int.tdiv a1 t114)) t116 t113).bind fun t117 => ((spec_l01Power.f k a0 (mx (wrap64 (t111 - t112)) 0)).bind fun t118 => ((spec_l01MulMod.f t117 t118 t113).bind fun t119 => (some (a3, t119, ji21, true)))))))))))) = some (r1, r2, r3, r4) := by first | (rw [hji21] at H; exact H) | (simp only [hji21] at H ⊢; exact H)
    (try rw [hji21] at A5)
    (try rw [hji21] at A13)
    (try rw [hji21] at A14)
    (try (have hji21l : 0 ≤ ji21 := by (rw [← hji21]; unfold mx; (repeat' split) <;> omega)))
    (try (have hji21m : 0 ≤ ji21 := by omega))
    have hji21_ : (if (wrap64 (t112 - t111)) < 0 then 0 else (wrap64 (t112 - t111))) = ji21 := hji21
    by_cases c22 : (ji21) > 6
    ·rw [if_pos c22] at H
     have c22b0 : decide (6 < (ji21)) = true := decide_eq_true c22
     clear c22
     simp only [Option.some.injEq, Prod.mk.injEq] at H
     obtain ⟨rfl, rfl, rfl, rfl⟩ := H
     go_enter Try.func170, Try.ntmps170
     go_wp2_with (first | ((refine gd_ 8 ?_); refine bx_ 8 #[.int .i64 0, .int .i64 0, .int .i64 0] 25 ?_; intro gb108 hg w23 BK108 hb; have GW108 := bs_ HB hg; have GE108 := bs_ HB hg; replace HB := bt_ HB hb; clear hb hg) | ((refine gc_ 109 ?_); refine ge_ 15 Try.func109 #[.int .i64 a3, .int .i64 (-6), .int .i64 6] ?_; (with_reducible refine (spec_l01In.calls a3 (-6) 6 true _ A5.out).mono ?_); rintro e w' ⟨rfl, ⟨nd, rfl⟩⟩; refine ⟨_, rfl, ?_⟩; (try (rw [drewN_self w23]; generalize hq_ : World.drewN w23 _ = w23; have n0_ := bq_ BK108 hq_; have n1_ := hq_' HB hq_; clear BK108 HB hq_; have BK108 := n0_; have HB := n1_; clear n0_ n1_))) | ((refine gd_ 10 ?_); refine bx_ 10 #[.int .i64 0, .int .i64 0, .int .i64 0] 25 ?_; intro gb110 hg w24 BK110 hb; have GW110 := bs_ HB hg; have GE110 := bs_ HB hg; have NB108_110 := bm_ BK108 hg; have NB110_108 := bn_ BK108 hg; replace BK108 := bb_ BK108 hb; replace HB := bt_ HB hb; clear hb hg; have hnb25 := NB110_108.out; have hnc25 := NB108_110.out; obtain ⟨hcz26_0, hcz26_1, hcz26_2, hfz26_0, hfz26_1, hfz26_2⟩ := ch3_ BK110) | ((refine gc_ 193 ?_); refine ge_ 25 Try.func193 #[.int .i64 a0, .int .i64 a1] ?_; (with_reducible refine (spec_l01Val.calls k a0 a1 t111 _ A13.out).mono ?_); rintro e w' ⟨rfl, ⟨nd, rfl⟩⟩; refine ⟨_, rfl, ?_⟩) | ((refine gc_ 193 ?_); refine ge_ 28 Try.func193 #[.int .i64 a0, .int .i64 a2] ?_; (with_reducible refine (spec_l01Val.calls k a0 a2 t112 _ A14.out).mono ?_); rintro e w' ⟨rfl, ⟨nd, rfl⟩⟩; refine ⟨_, rfl, ?_⟩; obtain ⟨hcz27_0, hcz27_1, hcz27_2, hfz27_0, hfz27_1, hfz27_2⟩ := ch3_ BK108))
     refine bodyPost_ret (results_ct rfl _ _ gb108 25 #[.int .i64 0, .int .i64 0, .int .i64 0] (0, 0) _ rfl (bp_ BK108).out Try.underlying25 rfl (by kernel_rfl)) rfl ?_
     exact ⟨by first | rfl | (simp [errW_none, errW_some] <;> rfl) | (simp only [← hji21]; first | rfl | (simp [errW_none, errW_some] <;> rfl)) | (simp [*, errW_none, errW_some] <;> rfl), (bw_ HB).out⟩
    ·rw [if_neg c22] at H
     have c22b0 : decide (6 < (ji21)) = false := decide_eq_false c22
     clear c22
     replace H := ob_ H
     obtain ⟨t113, A280, H⟩ := H
     have A28 := Aside0.mk A280
     clear A280
     replace H := ob_ H
     obtain ⟨t114, A290, H⟩ := H
     have A29 := Aside0.mk A290
     clear A290
     by_cases c30 : t114 = 0
     ·rw [if_pos c30] at H
      exact absurd H (by simp)
     ·rw [if_neg c30] at H
      have c30b0 : (t114 == 0) = false := beq_eq_false_iff_ne.mpr c30
      have c30b1 : (t114 != 0) = true := bne_iff_ne.mpr c30
      replace H := ob_ H
      obtain ⟨t115, A310, H⟩ := H
      have A31 := Aside0.mk A310
      clear A310
      by_cases c32 : t115 = 0
      ·rw [if_pos c32] at H
       exact absurd H (by simp)
      ·rw [if_neg c32] at H
       have c32b0 : (t115 == 0) = false := beq_eq_false_iff_ne.mpr c32
       have c32b1 : (t115 != 0) = true := bne_iff_ne.mpr c32
       replace H := ob_ H
       obtain ⟨t116, A330, H⟩ := H
       have A33 := Aside0.mk A330
       clear A330
       replace H := ob_ H
       obtain ⟨t117, A340, H⟩ := H
       have A34 := Aside0.mk A340
       clear A340
       obtain ⟨ji35, hji35⟩ : ∃ j_ : Int, (mx (wrap64 (t111 - t112)) 0) = j_ := ⟨_, rfl⟩
       replace H : ((spec_l01Power.f k a0 (ji35)).bind fun t118 => ((spec_l01MulMod.f t117 t118 t113).bind fun t119 => (some (a3, t119, ji21, true)))) = some (r1, r2, r3, r4) := by first | (rw [hji35] at H; exact H) | (simp only [hji35] at H ⊢; exact H)
       (try rw [hji35] at A5)
       (try rw [hji35] at A13)
       (try rw [hji35] at A14)
       (try rw [hji35] at A28)
       (try rw [hji35] at A29)
       (try rw [hji35] at A31)
       (try rw [hji35] at A33)
       (try rw [hji35] at A34)
       (try (have hji35l : 0 ≤ ji35 := by (rw [← hji35]; unfold mx; (repeat' split) <;> omega)))
       (try (have hji35m : 0 ≤ ji35 := by omega))
       have hji35_ : (if (wrap64 (t111 - t112)) < 0 then 0 else (wrap64 (t111 - t112))) = ji35 := hji35
       replace H := ob_ H
       obtain ⟨t118, A360, H⟩ := H
       have A36 := Aside0.mk A360
       clear A360
       replace H := ob_ H
       obtain ⟨t119, A370, H⟩ := H
       have A37 := Aside0.mk A370
       clear A370
       simp only [Option.some.injEq, Prod.mk.injEq] at H
       obtain ⟨rfl, rfl, rfl, rfl⟩ := H
       go_enter Try.func170, Try.ntmps170
       go_wp2_with (first | ((refine gd_ 8 ?_); refine bx_ 8 #[.int .i64 0, .int .i64 0, .int .i64 0] 25 ?_; intro gb108 hg w38 BK108 hb; have GW108 := bs_ HB hg; have GE108 := bs_ HB hg; replace HB := bt_ HB hb; clear hb hg) | ((refine gc_ 109 ?_); refine ge_ 15 Try.func109 #[.int .i64 a3, .int .i64 (-6), .int .i64 6] ?_; (with_reducible refine (spec_l01In.calls a3 (-6) 6 true _ A5.out).mono ?_); rintro e w' ⟨rfl, ⟨nd, rfl⟩⟩; refine ⟨_, rfl, ?_⟩; (try (rw [drewN_self w38]; generalize hq_ : World.drewN w38 _ = w38; have n0_ := bq_ BK108 hq_; have n1_ := hq_' HB hq_; clear BK108 HB hq_; have BK108 := n0_; have HB := n1_; clear n0_ n1_))) | ((refine gd_ 10 ?_); refine bx_ 10 #[.int .i64 0, .int .i64 0, .int .i64 0] 25 ?_; intro gb110 hg w39 BK110 hb; have GW110 := bs_ HB hg; have GE110 := bs_ HB hg; have NB108_110 := bm_ BK108 hg; have NB110_108 := bn_ BK108 hg; replace BK108 := bb_ BK108 hb; replace HB := bt_ HB hb; clear hb hg; have hnb40 := NB110_108.out; have hnc40 := NB108_110.out; obtain ⟨hcz41_0, hcz41_1, hcz41_2, hfz41_0, hfz41_1, hfz41_2⟩ := ch3_ BK110) | ((refine gc_ 193 ?_); refine ge_ 25 Try.func193 #[.int .i64 a0, .int .i64 a1] ?_; (with_reducible refine (spec_l01Val.calls k a0 a1 t111 _ A13.out).mono ?_); rintro e w' ⟨rfl, ⟨nd, rfl⟩⟩; refine ⟨_, rfl, ?_⟩) | ((refine gc_ 193 ?_); refine ge_ 28 Try.func193 #[.int .i64 a0, .int .i64 a2] ?_; (with_reducible refine (spec_l01Val.calls k a0 a2 t112 _ A14.out).mono ?_); rintro e w' ⟨rfl, ⟨nd, rfl⟩⟩; refine ⟨_, rfl, ?_⟩) | ((refine gc_ 169 ?_); refine ge_ 49 Try.func169 #[.int .i64 a0, .int .i64 (wrap64 (a3 + (ji21)))] ?_ (hargs := by (try simp only [List.map_toArray, List.map_cons, List.map_nil]); first | done | (simp only [hji21]; rfl) | rfl | (simp only [List.length_drop, List.length_take]; rfl)); (with_reducible refine (spec_l01Power.calls k a0 (wrap64 (a3 + (ji21))) t113 _ A28.out).mono ?_); rintro e w' ⟨rfl, ⟨nd, rfl⟩⟩; refine ⟨_, rfl, ?_⟩) | ((refine gc_ 169 ?_); refine ge_ 53 Try.func169 #[.int .i64 a0, .int .i64 t111] ?_; (with_reducible refine (spec_l01Power.calls k a0 t111 t114 _ A29.out).mono ?_); rintro e w' ⟨rfl, ⟨nd, rfl⟩⟩; refine ⟨_, rfl, ?_⟩) | ((refine gc_ 169 ?_); refine ge_ 58 Try.func169 #[.int .i64 a0, .int .i64 t112] ?_; (with_reducible refine (spec_l01Power.calls k a0 t112 t115 _ A31.out).mono ?_); rintro e w' ⟨rfl, ⟨nd, rfl⟩⟩; refine ⟨_, rfl, ?_⟩) | ((refine gc_ 195 ?_); refine ge_ 63 Try.func195 #[.int .i64 (wrap64 (Int.tdiv a2 t115)), .int .i64 t113] ?_; (with_reducible refine (spec_l01InvMod.calls k (wrap64 (Int.tdiv a2 t115)) t113 t116 _ A33.out).mono ?_); rintro e w' ⟨rfl, ⟨nd, rfl⟩⟩; refine ⟨_, rfl, ?_⟩) | ((refine gc_ 194 ?_); refine ge_ 65 Try.func194 #[.int .i64 (wrap64 (Int.tdiv a1 t114)), .int .i64 t116, .int .i64 t113] ?_; (with_reducible refine (spec_l01MulMod.calls (wrap64 (Int.tdiv a1 t114)) t116 t113 t117 _ A34.out).mono ?_); rintro e w' ⟨rfl, ⟨nd, rfl⟩⟩; refine ⟨_, rfl, ?_⟩) | ((refine gc_ 169 ?_); refine ge_ 71 Try.func169 #[.int .i64 a0, .int .i64 ji35] ?_ (hargs := by (try simp only [List.map_toArray, List.map_cons, List.map_nil]); first | done | (simp only [hji35]; rfl) | rfl | (simp only [List.length_drop, List.length_take]; rfl)); (with_reducible refine (spec_l01Power.calls k a0 ji35 t118 _ A36.out).mono ?_); rintro e w' ⟨rfl, ⟨nd, rfl⟩⟩; refine ⟨_, rfl, ?_⟩) | ((refine gc_ 194 ?_); refine ge_ 73 Try.func194 #[.int .i64 t117, .int .i64 t118, .int .i64 t113] ?_; (with_reducible refine (spec_l01MulMod.calls t117 t118 t113 t119 _ A37.out).mono ?_); rintro e w' ⟨rfl, ⟨nd, rfl⟩⟩; refine ⟨_, rfl, ?_⟩; obtain ⟨hcz42_0, hcz42_1, hcz42_2, hfz42_0, hfz42_1, hfz42_2⟩ := ch3_ BK108))
       refine bodyPost_ret (results_ct rfl _ _ gb108 25 #[.int .i64 a3, .int .i64 t119, .int .i64 ji21] (0, 0) _ rfl (bp_ BK108).out Try.underlying25 rfl (by kernel_rfl)) rfl ?_
       exact ⟨by first | rfl | (simp [errW_none, errW_some] <;> rfl) | (simp only [← hji21, ← hji35]; first | rfl | (simp [errW_none, errW_some] <;> rfl)) | (simp [*, errW_none, errW_some] <;> rfl), (bw_ HB).out⟩
 ·replace c6 := Bool.eq_false_iff.mpr c6
  subst c6
  have H1 : (some (0, 0, 0, false)) = some (r1, r2, r3, r4) := by rw [if_neg (show ¬ (false = true) by decide)] at H; exact H
  clear H
  have H := H1
  clear H1
  simp only [Option.some.injEq, Prod.mk.injEq] at H
  obtain ⟨rfl, rfl, rfl, rfl⟩ := H
  go_enter Try.func170, Try.ntmps170
  go_wp2_with (first | ((refine gd_ 8 ?_); refine bx_ 8 #[.int .i64 0, .int .i64 0, .int .i64 0] 25 ?_; intro gb108 hg w43 BK108 hb; have GW108 := bs_ HB hg; have GE108 := bs_ HB hg; replace HB := bt_ HB hb; clear hb hg) | ((refine gc_ 109 ?_); refine ge_ 15 Try.func109 #[.int .i64 a3, .int .i64 (-6), .int .i64 6] ?_; (with_reducible refine (spec_l01In.calls a3 (-6) 6 false _ A5.out).mono ?_); rintro e w' ⟨rfl, ⟨nd, rfl⟩⟩; refine ⟨_, rfl, ?_⟩; (try (rw [drewN_self w43]; generalize hq_ : World.drewN w43 _ = w43; have n0_ := bq_ BK108 hq_; have n1_ := hq_' HB hq_; clear BK108 HB hq_; have BK108 := n0_; have HB := n1_; clear n0_ n1_)); obtain ⟨hcz44_0, hcz44_1, hcz44_2, hfz44_0, hfz44_1, hfz44_2⟩ := ch3_ BK108))
  refine bodyPost_ret (results_ct rfl _ _ gb108 25 #[.int .i64 0, .int .i64 0, .int .i64 0] (0, 0) _ rfl (bp_ BK108).out Try.underlying25 rfl (by kernel_rfl)) rfl ?_
  exact ⟨es_, (bw_ HB).out⟩
end Go.Proofs.Ytgoeelhiffbjlaa.QR
