import Derived.Test.YtgoeelhiffbjlaaQTx10
namespace Go.Proofs.Ytgoeelhiffbjlaa.QT
set_option maxHeartbeats 8000000
set_option maxRecDepth 100000
open Go.RowKit Go.Proofs.YtgoeelhiffbjlaaW.PrintWords Go.Proofs.YtgoeelhiffbjlaaW.PrintLast Go.Proofs.YtgoeelhiffbjlaaW.PrintMore
attribute [local go_sem] isSome_setCell max2_int min2_int max_two min_two max_three min_three max_four min_four
set_option linter.unusedVariables false
set_option linter.unusedSimpArgs false

/-! ### impl_valuation: function 164 -/
def impl_valuation.l0 : Nat → Int → Int → Int → Option (Int)
 | 0, _, _, _ => none
 | k + 1, x0, x1, x5 => if x0 = 0 then (none) else (if (Int.tmod x1 x0) = 0 then (impl_valuation.l0 k x0 (wrap64 (Int.tdiv x1 x0)) (wrap64 (x5 + 1))) else (some x5))
def impl_valuation.f (k : Nat) (a0 : Int) (a1 : Int) : Option (Int) := if a1 = 0 then (some 1000) else (impl_valuation.l0 k a0 a1 0)
theorem impl_valuation.calls (k : Nat) (a0 : Int) (a1 : Int) (r : Int) (w : World) (h : impl_valuation.f k a0 a1 = some r) :
  Calls Try.prog 164 #[.int .i64 a0, .int .i64 a1] w fun e w' => e = .returned (.int .i64 r) ∧ Drawn0 w w' := by
 have H : (if a1 = 0 then (some 1000) else (impl_valuation.l0 k a0 a1 0)) = some r := h
 clear h
 by_cases c3 : a1 = 0
 ·rw [if_pos c3] at H
  have c3b0 : (a1 == 0) = true := beq_iff_eq.mpr c3
  have c3b1 : (a1 != 0) = false := bne_eq_false_iff_eq.mpr c3
  clear c3
  obtain rfl := si_ H
  go_enter Try.func164, Try.ntmps164
  go_wp2
  go_ret
  exact ⟨en_, de_⟩
 ·rw [if_neg c3] at H
  have c3b0 : (a1 == 0) = false := beq_eq_false_iff_ne.mpr c3
  have c3b1 : (a1 != 0) = true := bne_iff_ne.mpr c3
  have H' := Aside0.mk H
  clear H
  go_enter Try.func164, Try.ntmps164
  go_wp2
  go_loopg [1, 5] k (fun kq v1 v5 w' => ∃ (x1_1 : Int) (x5_1 : Int), v1 = .int .i64 x1_1 ∧ v5 = .int .i64 x5_1 ∧ Aside0 (impl_valuation.l0 kq a0 x1_1 x5_1 = some r) ∧ Aside0 (kq ≤ k) ∧ Drawn0 w w')
  case atStart => exact ⟨(a1), (0), en_, en_, H', ⟨Nat.le_refl _⟩, de_⟩
  case round =>
   clear H'
   try clear c1
   try clear p2
   try clear c3
   try clear c3b0
   try clear c3b1
   obtain ⟨x1_1, x5_1, rfl, rfl, HA, HK1, ⟨m1, rfl⟩⟩ := hrel
   cases gk with
   | zero => exact absurd HA.out (by simp [impl_valuation.l0])
   | succ k1 =>
    have H := HA.out
    clear HA
    simp only [impl_valuation.l0] at H
    by_cases c4 : a0 = 0
    ·rw [if_pos c4] at H
     exact absurd H (by simp)
    ·rw [if_neg c4] at H
     have c4b0 : (a0 == 0) = false := beq_eq_false_iff_ne.mpr c4
     have c4b1 : (a0 != 0) = true := bne_iff_ne.mpr c4
     by_cases c5 : (Int.tmod x1_1 a0) = 0
     ·rw [if_pos c5] at H
      have c5b0 : ((Int.tmod x1_1 a0) == 0) = true := beq_iff_eq.mpr c5
      have c5b1 : ((Int.tmod x1_1 a0) != 0) = false := bne_eq_false_iff_eq.mpr c5
      clear c5
      have H' := Aside0.mk H
      clear H
      go_wp2
      go_roundg k1
      case measure => have := HK1.out; omega
      case rel => exact ⟨(wrap64 (Int.tdiv x1_1 a0)), (wrap64 (x5_1 + 1)), en_, en_, H', ⟨by have := HK1.out; omega⟩, de_⟩
     ·rw [if_neg c5] at H
      have c5b0 : ((Int.tmod x1_1 a0) == 0) = false := beq_eq_false_iff_ne.mpr c5
      have c5b1 : ((Int.tmod x1_1 a0) != 0) = true := bne_iff_ne.mpr c5
      obtain rfl := si_ H
      go_wp2
      go_ret
      exact ⟨en_, de_⟩
/-! ### impl_mod: function 203 -/
def impl_mod.f (a0 : Int) (a1 : Int) : Option (Int) := if a1 = 0 then (none) else (some (Int.tmod (wrap64 ((Int.tmod a0 a1) + a1)) a1))
theorem impl_mod.calls (a0 : Int) (a1 : Int) (r : Int) (w : World) (h : impl_mod.f a0 a1 = some r) :
  Calls Try.prog 203 #[.int .i64 a0, .int .i64 a1] w fun e w' => e = .returned (.int .i64 r) ∧ Drawn0 w w' := by
 have H : (if a1 = 0 then (none) else (some (Int.tmod (wrap64 ((Int.tmod a0 a1) + a1)) a1))) = some r := h
 clear h
 by_cases c3 : a1 = 0
 ·rw [if_pos c3] at H
  exact absurd H (by simp)
 ·rw [if_neg c3] at H
  have c3b0 : (a1 == 0) = false := beq_eq_false_iff_ne.mpr c3
  have c3b1 : (a1 != 0) = true := bne_iff_ne.mpr c3
  obtain rfl := si_ H
  go_enter Try.func203, Try.ntmps203
  go_wp2
  go_ret
  exact ⟨en_, de_⟩
/-! ### impl_ofMark: function 192 -/
def impl_ofMark.f (k : Nat) (a0 : Int) (a1 : Int) (a2 : Int) : Option (Int × Int × Int × Bool) := (impl_isLevel.f a1).bind fun t111 => (if t111 = true then ((impl_power.f k a0 (wrap64 (a1 + 6))).bind fun t112 => ((impl_mod.f a2 t112).bind fun t113 => ((impl_valuation.f k a0 t113).bind fun t114 => ((impl_power.f k a0 (wrap64 (6 - (mx (wrap64 (6 - t114)) 0)))).bind fun t115 => (if t115 = 0 then (none) else (some (a1, wrap64 (Int.tdiv t113 t115), mx (wrap64 (6 - t114)) 0, true))))))) else (some (0, 0, 0, false)))
theorem impl_ofMark.calls (k : Nat) (a0 : Int) (a1 : Int) (a2 : Int) (r1 : Int) (r2 : Int) (r3 : Int) (r4 : Bool) (w : World) (h : impl_ofMark.f k a0 a1 a2 = some (r1, r2, r3, r4)) :
  Calls Try.prog 192 #[.int .i64 a0, .int .i64 a1, .int .i64 a2] w fun e w' => e = .returned (.tuple #[.agg #[.int .i64 r1, .int .i64 r2, .int .i64 r3], .bool r4]) ∧ Below w.heap.size w w' := by
 have hu25 := Try.underlying25
 have HB := Aside0.mk (Below.refl w.heap.size w)
 have H : ((impl_isLevel.f a1).bind fun t111 => (if t111 = true then ((impl_power.f k a0 (wrap64 (a1 + 6))).bind fun t112 => ((impl_mod.f a2 t112).bind fun t113 => ((impl_valuation.f k a0 t113).bind fun t114 => ((impl_power.f k a0 (wrap64 (6 - (mx (wrap64 (6 - t114)) 0)))).bind fun t115 => (if t115 = 0 then (none) else (some (a1, wrap64 (Int.tdiv t113 t115), mx (wrap64 (6 - t114)) 0, true))))))) else (some (0, 0, 0, false)))) = some (r1, r2, r3, r4) := h
 clear h
 replace H := ob_ H
 obtain ⟨t111, A40, H⟩ := H
 have A4 := Aside0.mk A40
 clear A40
 by_cases c5 : t111 = true
 ·subst c5
  have H1 : ((impl_power.f k a0 (wrap64 (a1 + 6))).bind fun t112 => ((impl_mod.f a2 t112).bind fun t113 => ((impl_valuation.f k a0 t113).bind fun t114 => ((impl_power.f k a0 (wrap64 (6 - (mx (wrap64 (6 - t114)) 0)))).bind fun t115 => (if t115 = 0 then (none) else (some (a1, wrap64 (Int.tdiv t113 t115), mx (wrap64 (6 - t114)) 0, true))))))) = some (r1, r2, r3, r4) := by rw [if_pos rfl] at H; exact H
  clear H
  have H := H1
  clear H1
  replace H := ob_ H
  obtain ⟨t112, A60, H⟩ := H
  have A6 := Aside0.mk A60
  clear A60
  replace H := ob_ H
  obtain ⟨t113, A70, H⟩ := H
  have A7 := Aside0.mk A70
  clear A70
  replace H := ob_ H
  obtain ⟨t114, A80, H⟩ := H
  have A8 := Aside0.mk A80
  clear A80
  obtain ⟨ji9, hji9⟩ : ∃ j_ : Int, (mx (wrap64 (6 - t114)) 0) = j_ := ⟨_, rfl⟩
  replace H : ((impl_power.f k a0 (wrap64 (6 - (ji9)))).bind fun t115 => (if t115 = 0 then (none) else (some (a1, wrap64 (Int.tdiv t113 t115), ji9, true)))) = some (r1, r2, r3, r4) := by first | (rw [hji9] at H; exact H) | (simp only [hji9] at H ⊢; exact H)
  (try rw [hji9] at A4)
  (try rw [hji9] at A6)
  (try rw [hji9] at A7)
  (try rw [hji9] at A8)
  (try (have hji9l : 0 ≤ ji9 := by (rw [← hji9]; unfold mx; (repeat' split) <;> omega)))
  (try (have hji9m : 0 ≤ ji9 := by omega))
  have hji9_ : (if (wrap64 (6 - t114)) < 0 then 0 else (wrap64 (6 - t114))) = ji9 := hji9
  replace H := ob_ H
  obtain ⟨t115, A100, H⟩ := H
  have A10 := Aside0.mk A100
  clear A100
  by_cases c11 : t115 = 0
  ·rw [if_pos c11] at H
   exact absurd H (by simp)
  ·rw [if_neg c11] at H
   have c11b0 : (t115 == 0) = false := beq_eq_false_iff_ne.mpr c11
   have c11b1 : (t115 != 0) = true := bne_iff_ne.mpr c11
   simp only [Option.some.injEq, Prod.mk.injEq] at H
   obtain ⟨rfl, rfl, rfl, rfl⟩ := H
   go_enter Try.func192, Try.ntmps192
   go_wp2_with (first | ((refine gd_ 6 ?_); refine bx_ 6 #[.int .i64 0, .int .i64 0, .int .i64 0] 25 ?_; intro gb110 hg w12 BK110 hb; have GW110 := bs_ HB hg; have GE110 := bs_ HB hg; replace HB := bt_ HB hb; clear hb hg) | ((refine gc_ 161 ?_); refine ge_ 10 Try.func161 #[.int .i64 a1] ?_; (with_reducible refine (impl_isLevel.calls a1 true _ A4.out).mono ?_); rintro e w' ⟨rfl, ⟨nd, rfl⟩⟩; refine ⟨_, rfl, ?_⟩; (try (rw [drewN_self w12]; generalize hq_ : World.drewN w12 _ = w12; have n0_ := bq_ BK110 hq_; have n1_ := hq_' HB hq_; clear BK110 HB hq_; have BK110 := n0_; have HB := n1_; clear n0_ n1_))) | ((refine gc_ 162 ?_); refine ge_ 17 Try.func162 #[.int .i64 a0, .int .i64 (wrap64 (a1 + 6))] ?_; (with_reducible refine (impl_power.calls k a0 (wrap64 (a1 + 6)) t112 _ A6.out).mono ?_); rintro e w' ⟨rfl, ⟨nd, rfl⟩⟩; refine ⟨_, rfl, ?_⟩; (try (rw [drewN_self w12]; generalize hq_ : World.drewN w12 _ = w12; have n0_ := bq_ BK110 hq_; have n1_ := hq_' HB hq_; clear BK110 HB hq_; have BK110 := n0_; have HB := n1_; clear n0_ n1_))) | ((refine gc_ 203 ?_); refine ge_ 18 Try.func203 #[.int .i64 a2, .int .i64 t112] ?_; (with_reducible refine (impl_mod.calls a2 t112 t113 _ A7.out).mono ?_); rintro e w' ⟨rfl, ⟨nd, rfl⟩⟩; refine ⟨_, rfl, ?_⟩; (try (rw [drewN_self w12]; generalize hq_ : World.drewN w12 _ = w12; have n0_ := bq_ BK110 hq_; have n1_ := hq_' HB hq_; clear BK110 HB hq_; have BK110 := n0_; have HB := n1_; clear n0_ n1_))) | ((refine gc_ 164 ?_); refine ge_ 21 Try.func164 #[.int .i64 a0, .int .i64 t113] ?_; (with_reducible refine (impl_valuation.calls k a0 t113 t114 _ A8.out).mono ?_); rintro e w' ⟨rfl, ⟨nd, rfl⟩⟩; refine ⟨_, rfl, ?_⟩; (try (rw [drewN_self w12]; generalize hq_ : World.drewN w12 _ = w12; have n0_ := bq_ BK110 hq_; have n1_ := hq_' HB hq_; clear BK110 HB hq_; have BK110 := n0_; have HB := n1_; clear n0_ n1_))) | ((refine gc_ 162 ?_); refine ge_ 29 Try.func162 #[.int .i64 a0, .int .i64 (wrap64 (6 - (ji9)))] ?_ (hargs := by (try simp only [List.map_toArray, List.map_cons, List.map_nil]); first | done | (simp only [hji9]; rfl) | rfl | (simp only [List.length_drop, List.length_take]; rfl)); (with_reducible refine (impl_power.calls k a0 (wrap64 (6 - (ji9))) t115 _ A10.out).mono ?_); rintro e w' ⟨rfl, ⟨nd, rfl⟩⟩; refine ⟨_, rfl, ?_⟩; (try (rw [drewN_self w12]; generalize hq_ : World.drewN w12 _ = w12; have n0_ := bq_ BK110 hq_; have n1_ := hq_' HB hq_; clear BK110 HB hq_; have BK110 := n0_; have HB := n1_; clear n0_ n1_)); obtain ⟨hcz13_0, hcz13_1, hcz13_2, hfz13_0, hfz13_1, hfz13_2⟩ := ch3_ BK110))
   refine bodyPost_ret (results_ct rfl _ _ gb110 25 #[.int .i64 a1, .int .i64 (wrap64 (Int.tdiv t113 t115)), .int .i64 ji9] (0, 0) _ rfl (bp_ BK110).out Try.underlying25 rfl (by kernel_rfl)) rfl ?_
   exact ⟨by first | rfl | (simp [errW_none, errW_some] <;> rfl) | (simp only [← hji9]; first | rfl | (simp [errW_none, errW_some] <;> rfl)) | (simp [*, errW_none, errW_some] <;> rfl), (bw_ HB).out⟩
 ·replace c5 := Bool.eq_false_iff.mpr c5
  subst c5
  have H1 : (some (0, 0, 0, false)) = some (r1, r2, r3, r4) := by rw [if_neg (show ¬ (false = true) by decide)] at H; exact H
  clear H
  have H := H1
  clear H1
  simp only [Option.some.injEq, Prod.mk.injEq] at H
  obtain ⟨rfl, rfl, rfl, rfl⟩ := H
  go_enter Try.func192, Try.ntmps192
  go_wp2_with (first | ((refine gd_ 6 ?_); refine bx_ 6 #[.int .i64 0, .int .i64 0, .int .i64 0] 25 ?_; intro gb110 hg w14 BK110 hb; have GW110 := bs_ HB hg; have GE110 := bs_ HB hg; replace HB := bt_ HB hb; clear hb hg) | ((refine gc_ 161 ?_); refine ge_ 10 Try.func161 #[.int .i64 a1] ?_; (with_reducible refine (impl_isLevel.calls a1 false _ A4.out).mono ?_); rintro e w' ⟨rfl, ⟨nd, rfl⟩⟩; refine ⟨_, rfl, ?_⟩; (try (rw [drewN_self w14]; generalize hq_ : World.drewN w14 _ = w14; have n0_ := bq_ BK110 hq_; have n1_ := hq_' HB hq_; clear BK110 HB hq_; have BK110 := n0_; have HB := n1_; clear n0_ n1_)); obtain ⟨hcz15_0, hcz15_1, hcz15_2, hfz15_0, hfz15_1, hfz15_2⟩ := ch3_ BK110))
  refine bodyPost_ret (results_ct rfl _ _ gb110 25 #[.int .i64 0, .int .i64 0, .int .i64 0] (0, 0) _ rfl (bp_ BK110).out Try.underlying25 rfl (by kernel_rfl)) rfl ?_
  exact ⟨es_, (bw_ HB).out⟩
/-! ### impl_parent: function 184 -/
def impl_parent.f (k : Nat) (a0 : Int) (a1_0 : Int) (a1_1 : Int) (a1_2 : Int) : Option (Int × Int × Int × Bool) := (impl_mark.f k a0 a1_0 a1_1 a1_2).bind fun t118 => ((impl_ofMark.f k a0 (wrap64 (a1_0 - 1)) t118).bind fun bt119 => (some (bt119.1, bt119.2.1, bt119.2.2.1, bt119.2.2.2)))
def impl_parent.T1 : Bool × List (List Nat × List Nat) := (true, [([], []), ([], []), ([1], [1]), ([2], [2]), ([], []), ([], []), ([4, 5], [4, 5]), ([0, 3, 6, 6], [0, 3, 6]), ([7], [7]), ([7], [7]), ([8, 7, 0, 1, 2, 3, 4, 5, 6, 7, 8, 9], [8]), ([9, 10, 0, 1, 2, 3, 4, 5, 6, 7, 8, 9, 10], [9])])
def impl_parent.B1 : List Nat := [0, 0, 2, 6, 0, 0, 48, 127, 255, 255, 1023, 2047]
theorem impl_parent.tab1 : rtab .any (opsOf Try.f184 1) = impl_parent.T1 := by kernel_rfl
theorem impl_parent.bits1 : waitsOk impl_parent.T1.2 impl_parent.B1 = true := by kernel_rfl
theorem impl_parent.calls (k : Nat) (a0 : Int) (a1_0 : Int) (a1_1 : Int) (a1_2 : Int) (r1 : Int) (r2 : Int) (r3 : Int) (r4 : Bool) (w : World) (h : impl_parent.f k a0 a1_0 a1_1 a1_2 = some (r1, r2, r3, r4)) :
  Calls Try.prog 184 #[.int .i64 a0, .agg #[.int .i64 a1_0, .int .i64 a1_1, .int .i64 a1_2]] w fun e w' => e = .returned (.tuple #[.agg #[.int .i64 r1, .int .i64 r2, .int .i64 r3], .bool r4]) ∧ Below w.heap.size w w' := by
 have hu25 := Try.underlying25
 have HB := Aside0.mk (Below.refl w.heap.size w)
 have H : ((impl_mark.f k a0 a1_0 a1_1 a1_2).bind fun t118 => ((impl_ofMark.f k a0 (wrap64 (a1_0 - 1)) t118).bind fun bt119 => (some (bt119.1, bt119.2.1, bt119.2.2.1, bt119.2.2.2)))) = some (r1, r2, r3, r4) := h
 clear h
 replace H := ob_ H
 obtain ⟨t118, A30, H⟩ := H
 have A3 := Aside0.mk A30
 clear A30
 replace H := ob_ H
 obtain ⟨⟨t119, t120, t121, t122⟩, A40, H⟩ := H
 have A4 := Aside0.mk A40
 clear A40
 simp only [Option.some.injEq, Prod.mk.injEq] at H
 obtain ⟨rfl, rfl, rfl, rfl⟩ := H
 go_enter Try.func184, Try.ntmps184
 try go_wp2_with (first | ((refine gd_ 3 ?_); refine bx_ 3 #[.int .i64 a1_0, .int .i64 a1_1, .int .i64 a1_2] 25 ?_; intro gb116 hg w5 BK116 hb; have GW116 := bs_ HB hg; have GE116 := bs_ HB hg; replace HB := bt_ HB hb; clear hb hg) | ((refine gd_ 4 ?_); refine bx_ 4 #[.int .i64 0, .int .i64 0, .int .i64 0] 25 ?_; intro gb117 hg w6 BK117 hb; have GW117 := bs_ HB hg; have GE117 := bs_ HB hg; have NB116_117 := bm_ BK116 hg; have NB117_116 := bn_ BK116 hg; replace BK116 := bb_ BK116 hb; replace HB := bt_ HB hb; clear hb hg))
 replace BK116 := Aside0.mk (blk_drew BK116.out)
 replace BK117 := Aside0.mk (blk_drew BK117.out)
 replace HB := Aside0.mk (below_drew1 HB.out)
 refine start_ (n := 12) (S := fun w' => w'.cell? ⟨gb116, 0, none⟩ = some (.int .i64 a1_0) ∧ w'.cell? ⟨gb116, 1, none⟩ = some (.int .i64 a1_1) ∧ w'.cell? ⟨gb116, 2, none⟩ = some (.int .i64 a1_2)) (ds := []) (bv_ 12 0) (by kernel_rfl) rfl rfl ⟨cz_ BK116 0, cz_ BK116 1, cz_ BK116 2⟩ (fun hHeld => ?_); refine with_tabW impl_parent.tab1 impl_parent.bits1 (fun HT_ HW_ => ?_)
 generalize w6.drew = w7 at BK116 BK117 HB hHeld ⊢
 refine px_ HT_ 0 6 1 ?_
 refine px_ HT_ 1 7 3 ?_
 refine px_ HT_ 4 10 19 ?_
 refine ta_ HT_ HW_ 2 (some 8) (bv_ 12 23) hHeld ?_ (hy := by rintro w' ⟨s0, s1, s2⟩; go_simp; with_reducible rfl)
 refine px_ HT_ 3 9 31 ?_
 refine ta_ HT_ HW_ 5 (some 11) (bv_ 12 63) hHeld ?_ (hy := by rintro w' ⟨s0, s1, s2⟩; go_simp; with_reducible rfl)
 refine on_ HT_ 6 (some 12) (bv_ 12 127) (fun K hK => ?_)
 refine gs_ Try.func163 #[.int .i64 a0, .agg #[.int .i64 a1_0, .int .i64 a1_1, .int .i64 a1_2]] ?_
 with_reducible refine (impl_mark.calls k a0 a1_0 a1_1 a1_2 t118 _ A3.out).mono ?_
 rintro e w8 ⟨rfl, hb⟩
 refine ⟨_, rfl, ?_⟩
 replace BK116 := bb_ BK116 hb
 replace BK117 := bb_ BK117 hb
 replace HB := bt_ HB hb
 (try clear hb)
 (try clear hb2)
 (try clear hk)
 (try clear hi)
 refine hK.out _ _ ⟨cz_ BK116 0, cz_ BK116 1, cz_ BK116 2⟩ (fun hHeld => ?_)
 clear hK K
 refine nm_ (some 12) ?_
 refine on_ HT_ 7 (some 13) (bv_ 12 255) (fun K hK => ?_)
 refine gs_ Try.func192 #[.int .i64 a0, .int .i64 (wrap64 (a1_0 - 1)), .int .i64 t118] ?_
 with_reducible refine (impl_ofMark.calls k a0 (wrap64 (a1_0 - 1)) t118 t119 t120 t121 t122 _ A4.out).mono ?_
 rintro e w9 ⟨rfl, hb⟩
 refine ⟨_, rfl, ?_⟩
 replace BK116 := bb_ BK116 hb
 replace BK117 := bb_ BK117 hb
 replace HB := bt_ HB hb
 (try clear hb)
 (try clear hb2)
 (try clear hk)
 (try clear hi)
 refine hK.out _ _ ⟨cz_ BK116 0, cz_ BK116 1, cz_ BK116 2⟩ (fun hHeld => ?_)
 clear hK K
 refine nm_ (some 13) ?_
 refine px_ HT_ 8 14 511 ?_
 refine px_ HT_ 9 15 1023 ?_
 refine on_ HT_ 10 none (bv_ 12 2047) (fun K hK => ?_)
 have hs10 : w9.cell? ⟨gb117, 0, none⟩ = some (.int .i64 0) := (blk_cell BK117.out 0).trans rfl
 have hfs10 := blk_frozen BK117.out 0
 have hns10_0 := NB116_117.out
 have hms10_0 := NB117_116.out
 have hs11 : w9.cell? ⟨gb117, 1, none⟩ = some (.int .i64 0) := (blk_cell BK117.out 1).trans rfl
 have hfs11 := blk_frozen BK117.out 1
 have hns11_0 := NB116_117.out
 have hms11_0 := NB117_116.out
 have hs12 : w9.cell? ⟨gb117, 2, none⟩ = some (.int .i64 0) := (blk_cell BK117.out 2).trans rfl
 have hfs12 := blk_frozen BK117.out 2
 have hns12_0 := NB116_117.out
 have hms12_0 := NB117_116.out
 refine skip_ (w1 := ?_) (by rfl) rfl ?_ ?_
 rotate_left
 ·go_simp
  rfl
 refine hK.out _ _ ⟨(cg_ NB116_117 ((cg_ NB116_117 ((cg_ NB116_117 (hHeld.1)))))), (cg_ NB116_117 ((cg_ NB116_117 ((cg_ NB116_117 (hHeld.2.1)))))), (cg_ NB116_117 ((cg_ NB116_117 ((cg_ NB116_117 (hHeld.2.2))))))⟩ (fun hHeld => ?_)
 clear hK K
 refine px_ HT_ 11 5 4095 ?_
 refine done_ (done_of HT_.out (by kernel_rfl)) ?_
 try go_wp2
 refine bodyPost_ret (results_ct rfl _ _ gb117 25 #[.int .i64 t119, .int .i64 t120, .int .i64 t121] (0, 0) _ rfl (bp_ BK117).out Try.underlying25 rfl (by kernel_rfl)) rfl ?_
 exact ⟨es_, (bw_ HB).out⟩
/-! ### impl_child: function 185 -/
def impl_child.f (k : Nat) (a0 : Int) (a1_0 : Int) (a1_1 : Int) (a1_2 : Int) (a2 : Int) : Option (Int × Int × Int × Bool) := (impl_mark.f k a0 a1_0 a1_1 a1_2).bind fun t125 => ((impl_power.f k a0 (wrap64 (a1_0 + 6))).bind fun t126 => ((impl_ofMark.f k a0 (wrap64 (a1_0 + 1)) (wrap64 (t125 + (wrap64 (a2 * t126))))).bind fun bt127 => (some (bt127.1, bt127.2.1, bt127.2.2.1, bt127.2.2.2))))
def impl_child.T1 : Bool × List (List Nat × List Nat) := (true, [([], []), ([], []), ([1], [1]), ([2], [2]), ([], []), ([], []), ([4, 5], [4, 5]), ([], []), ([], []), ([], []), ([9], [9]), ([10], [10]), ([8, 11, 6], [8, 11]), ([7, 12], [7, 12]), ([6, 13], [6, 13]), ([0, 3, 14, 12], [0, 3, 14]), ([15], [15]), ([15], [15]), ([16, 15, 0, 1, 2, 3, 4, 5, 6, 7, 8, 9, 10, 11, 12, 13, 14, 15, 16, 17], [16]), ([17, 18, 0, 1, 2, 3, 4, 5, 6, 7, 8, 9, 10, 11, 12, 13, 14, 15, 16, 17, 18], [17])])
def impl_child.B1 : List Nat := [0, 0, 2, 6, 0, 0, 48, 0, 0, 0, 512, 1536, 3952, 8176, 16368, 32767, 65535, 65535, 262143, 524287]
theorem impl_child.tab1 : rtab .any (opsOf Try.f185 1) = impl_child.T1 := by kernel_rfl
theorem impl_child.bits1 : waitsOk impl_child.T1.2 impl_child.B1 = true := by kernel_rfl
theorem impl_child.calls (k : Nat) (a0 : Int) (a1_0 : Int) (a1_1 : Int) (a1_2 : Int) (a2 : Int) (r1 : Int) (r2 : Int) (r3 : Int) (r4 : Bool) (w : World) (h : impl_child.f k a0 a1_0 a1_1 a1_2 a2 = some (r1, r2, r3, r4)) :
  Calls Try.prog 185 #[.int .i64 a0, .agg #[.int .i64 a1_0, .int .i64 a1_1, .int .i64 a1_2], .int .i64 a2] w fun e w' => e = .returned (.tuple #[.agg #[.int .i64 r1, .int .i64 r2, .int .i64 r3], .bool r4]) ∧ Below w.heap.size w w' := by
 have hu25 := Try.underlying25
 have HB := Aside0.mk (Below.refl w.heap.size w)
 have H : ((impl_mark.f k a0 a1_0 a1_1 a1_2).bind fun t125 => ((impl_power.f k a0 (wrap64 (a1_0 + 6))).bind fun t126 => ((impl_ofMark.f k a0 (wrap64 (a1_0 + 1)) (wrap64 (t125 + (wrap64 (a2 * t126))))).bind fun bt127 => (some (bt127.1, bt127.2.1, bt127.2.2.1, bt127.2.2.2))))) = some (r1, r2, r3, r4) := h
 clear h
 replace H := ob_ H
 obtain ⟨t125, A40, H⟩ := H
 have A4 := Aside0.mk A40
 clear A40
 replace H := ob_ H
 obtain ⟨t126, A50, H⟩ := H
 have A5 := Aside0.mk A50
 clear A50
 replace H := ob_ H
 obtain ⟨⟨t127, t128, t129, t130⟩, A60, H⟩ := H
 have A6 := Aside0.mk A60
 clear A60
 simp only [Option.some.injEq, Prod.mk.injEq] at H
 obtain ⟨rfl, rfl, rfl, rfl⟩ := H
 go_enter Try.func185, Try.ntmps185
 try go_wp2_with (first | ((refine gd_ 4 ?_); refine bx_ 4 #[.int .i64 a1_0, .int .i64 a1_1, .int .i64 a1_2] 25 ?_; intro gb123 hg w7 BK123 hb; have GW123 := bs_ HB hg; have GE123 := bs_ HB hg; replace HB := bt_ HB hb; clear hb hg) | ((refine gd_ 6 ?_); refine bx_ 6 #[.int .i64 0, .int .i64 0, .int .i64 0] 25 ?_; intro gb124 hg w8 BK124 hb; have GW124 := bs_ HB hg; have GE124 := bs_ HB hg; have NB123_124 := bm_ BK123 hg; have NB124_123 := bn_ BK123 hg; replace BK123 := bb_ BK123 hb; replace HB := bt_ HB hb; clear hb hg))
 replace BK123 := Aside0.mk (blk_drew BK123.out)
 replace BK124 := Aside0.mk (blk_drew BK124.out)
 replace HB := Aside0.mk (below_drew1 HB.out)
 refine start_ (n := 20) (S := fun w' => w'.cell? ⟨gb123, 0, none⟩ = some (.int .i64 a1_0) ∧ w'.cell? ⟨gb123, 1, none⟩ = some (.int .i64 a1_1) ∧ w'.cell? ⟨gb123, 2, none⟩ = some (.int .i64 a1_2)) (ds := []) (bv_ 20 0) (by kernel_rfl) rfl rfl ⟨cz_ BK123 0, cz_ BK123 1, cz_ BK123 2⟩ (fun hHeld => ?_); refine with_tabW impl_child.tab1 impl_child.bits1 (fun HT_ HW_ => ?_)
 generalize w8.drew = w9 at BK123 BK124 HB hHeld ⊢
 refine px_ HT_ 0 8 1 ?_
 refine px_ HT_ 1 9 3 ?_
 refine px_ HT_ 4 12 19 ?_
 refine px_ HT_ 7 15 147 ?_
 refine px_ HT_ 8 16 403 ?_
 refine px_ HT_ 9 17 915 ?_
 refine ta_ HT_ HW_ 2 (some 10) (bv_ 20 919) hHeld ?_ (hy := by rintro w' ⟨s0, s1, s2⟩; go_simp; with_reducible rfl)
 refine px_ HT_ 3 11 927 ?_
 refine ta_ HT_ HW_ 5 (some 13) (bv_ 20 959) hHeld ?_ (hy := by rintro w' ⟨s0, s1, s2⟩; go_simp; with_reducible rfl)
 refine ta_ HT_ HW_ 10 (some 18) (bv_ 20 1983) hHeld ?_ (hy := by rintro w' ⟨s0, s1, s2⟩; go_simp; with_reducible rfl)
 refine px_ HT_ 11 19 4031 ?_
 refine on_ HT_ 6 (some 14) (bv_ 20 4095) (fun K hK => ?_)
 refine gs_ Try.func163 #[.int .i64 a0, .agg #[.int .i64 a1_0, .int .i64 a1_1, .int .i64 a1_2]] ?_
 with_reducible refine (impl_mark.calls k a0 a1_0 a1_1 a1_2 t125 _ A4.out).mono ?_
 rintro e w10 ⟨rfl, hb⟩
 refine ⟨_, rfl, ?_⟩
 replace BK123 := bb_ BK123 hb
 replace BK124 := bb_ BK124 hb
 replace HB := bt_ HB hb
 (try clear hb)
 (try clear hb2)
 (try clear hk)
 (try clear hi)
 refine hK.out _ _ ⟨cz_ BK123 0, cz_ BK123 1, cz_ BK123 2⟩ (fun hHeld => ?_)
 clear hK K
 refine nm_ (some 14) ?_
 refine on_ HT_ 12 (some 20) (bv_ 20 8191) (fun K hK => ?_)
 refine gs_ Try.func162 #[.int .i64 a0, .int .i64 (wrap64 (a1_0 + 6))] ?_
 with_reducible refine (impl_power.calls k a0 (wrap64 (a1_0 + 6)) t126 _ A5.out).mono ?_
 rintro e w' ⟨rfl, ⟨nd, rfl⟩⟩
 refine ⟨_, rfl, ?_⟩
 refine hK.out _ _ ⟨cz_ BK123 0, cz_ BK123 1, cz_ BK123 2⟩ (fun hHeld => ?_)
 clear hK K
 refine nm_ (some 20) ?_
 refine px_ HT_ 13 21 16383 ?_
 refine px_ HT_ 14 22 32767 ?_
 refine on_ HT_ 15 (some 23) (bv_ 20 65535) (fun K hK => ?_)
 refine gs_ Try.func192 #[.int .i64 a0, .int .i64 (wrap64 (a1_0 + 1)), .int .i64 (wrap64 (t125 + (wrap64 (a2 * t126))))] ?_
 with_reducible refine (impl_ofMark.calls k a0 (wrap64 (a1_0 + 1)) (wrap64 (t125 + (wrap64 (a2 * t126)))) t127 t128 t129 t130 _ A6.out).mono ?_
 rintro e w11 ⟨rfl, hb⟩
 refine ⟨_, rfl, ?_⟩
 replace BK123 := bb_ BK123 hb
 replace BK124 := bb_ BK124 hb
 replace HB := bt_ HB hb
 (try clear hb)
 (try clear hb2)
 (try clear hk)
 (try clear hi)
 refine hK.out _ _ ⟨cz_ BK123 0, cz_ BK123 1, cz_ BK123 2⟩ (fun hHeld => ?_)
 clear hK K
 refine nm_ (some 23) ?_
 refine px_ HT_ 16 24 131071 ?_
 refine px_ HT_ 17 25 262143 ?_
 refine on_ HT_ 18 none (bv_ 20 524287) (fun K hK => ?_)
 have hs12 : w11.cell? ⟨gb124, 0, none⟩ = some (.int .i64 0) := (blk_cell BK124.out 0).trans rfl
 have hfs12 := blk_frozen BK124.out 0
 have hns12_0 := NB123_124.out
 have hms12_0 := NB124_123.out
 have hs13 : w11.cell? ⟨gb124, 1, none⟩ = some (.int .i64 0) := (blk_cell BK124.out 1).trans rfl
 have hfs13 := blk_frozen BK124.out 1
 have hns13_0 := NB123_124.out
 have hms13_0 := NB124_123.out
 have hs14 : w11.cell? ⟨gb124, 2, none⟩ = some (.int .i64 0) := (blk_cell BK124.out 2).trans rfl
 have hfs14 := blk_frozen BK124.out 2
 have hns14_0 := NB123_124.out
 have hms14_0 := NB124_123.out
 refine skip_ (w1 := ?_) (by rfl) rfl ?_ ?_
 rotate_left
 ·go_simp
  rfl
 refine hK.out _ _ ⟨(cg_ NB123_124 ((cg_ NB123_124 ((cg_ NB123_124 (hHeld.1)))))), (cg_ NB123_124 ((cg_ NB123_124 ((cg_ NB123_124 (hHeld.2.1)))))), (cg_ NB123_124 ((cg_ NB123_124 ((cg_ NB123_124 (hHeld.2.2))))))⟩ (fun hHeld => ?_)
 clear hK K
 refine px_ HT_ 19 7 1048575 ?_
 refine done_ (done_of HT_.out (by kernel_rfl)) ?_
 try go_wp2
 refine bodyPost_ret (results_ct rfl _ _ gb124 25 #[.int .i64 t127, .int .i64 t128, .int .i64 t129] (0, 0) _ rfl (bp_ BK124).out Try.underlying25 rfl (by kernel_rfl)) rfl ?_
 exact ⟨es_, (bw_ HB).out⟩
/-! ### impl_neighbour: function 150 -/
def impl_neighbour.f (k : Nat) (a0 : Int) (a1_0 : Int) (a1_1 : Int) (a1_2 : Int) (a2 : Int) : Option (Int × Int × Int × Bool) := if a2 = 0 then ((impl_parent.f k a0 a1_0 a1_1 a1_2).bind fun bt133 => (some (bt133.1, bt133.2.1, bt133.2.2.1, bt133.2.2.2))) else ((impl_child.f k a0 a1_0 a1_1 a1_2 (wrap64 (a2 - 1))).bind fun bt137 => (some (bt137.1, bt137.2.1, bt137.2.2.1, bt137.2.2.2)))
theorem impl_neighbour.calls (k : Nat) (a0 : Int) (a1_0 : Int) (a1_1 : Int) (a1_2 : Int) (a2 : Int) (r1 : Int) (r2 : Int) (r3 : Int) (r4 : Bool) (w : World) (h : impl_neighbour.f k a0 a1_0 a1_1 a1_2 a2 = some (r1, r2, r3, r4)) :
  Calls Try.prog 150 #[.int .i64 a0, .agg #[.int .i64 a1_0, .int .i64 a1_1, .int .i64 a1_2], .int .i64 a2] w fun e w' => e = .returned (.tuple #[.agg #[.int .i64 r1, .int .i64 r2, .int .i64 r3], .bool r4]) ∧ Below w.heap.size w w' := by
 have hu25 := Try.underlying25
 have HB := Aside0.mk (Below.refl w.heap.size w)
 have H : (if a2 = 0 then ((impl_parent.f k a0 a1_0 a1_1 a1_2).bind fun bt133 => (some (bt133.1, bt133.2.1, bt133.2.2.1, bt133.2.2.2))) else ((impl_child.f k a0 a1_0 a1_1 a1_2 (wrap64 (a2 - 1))).bind fun bt137 => (some (bt137.1, bt137.2.1, bt137.2.2.1, bt137.2.2.2)))) = some (r1, r2, r3, r4) := h
 clear h
 by_cases c4 : a2 = 0
 ·rw [if_pos c4] at H
  have c4b0 : (a2 == 0) = true := beq_iff_eq.mpr c4
  have c4b1 : (a2 != 0) = false := bne_eq_false_iff_eq.mpr c4
  clear c4
  replace H := ob_ H
  obtain ⟨⟨t133, t134, t135, t136⟩, A50, H⟩ := H
  have A5 := Aside0.mk A50
  clear A50
  simp only [Option.some.injEq, Prod.mk.injEq] at H
  obtain ⟨rfl, rfl, rfl, rfl⟩ := H
  go_enter Try.func150, Try.ntmps150
  go_wp2_with (first | ((refine gd_ 4 ?_); refine bx_ 4 #[.int .i64 a1_0, .int .i64 a1_1, .int .i64 a1_2] 25 ?_; intro gb131 hg w6 BK131 hb; have GW131 := bs_ HB hg; have GE131 := bs_ HB hg; replace HB := bt_ HB hb; clear hb hg) | ((refine gd_ 6 ?_); refine bx_ 6 #[.int .i64 0, .int .i64 0, .int .i64 0] 25 ?_; intro gb132 hg w7 BK132 hb; have GW132 := bs_ HB hg; have GE132 := bs_ HB hg; have NB131_132 := bm_ BK131 hg; have NB132_131 := bn_ BK131 hg; replace BK131 := bb_ BK131 hb; replace HB := bt_ HB hb; clear hb hg; have hnb8 := NB131_132.out; have hnc8 := NB132_131.out; obtain ⟨hcz9_0, hcz9_1, hcz9_2, hfz9_0, hfz9_1, hfz9_2⟩ := ch3_ BK131) | ((refine gc_ 184 ?_); refine ge_ 12 Try.func184 #[.int .i64 a0, .agg #[.int .i64 a1_0, .int .i64 a1_1, .int .i64 a1_2]] ?_; (with_reducible refine (impl_parent.calls k a0 a1_0 a1_1 a1_2 t133 t134 t135 t136 _ A5.out).mono ?_); rintro e w10 ⟨rfl, hb⟩; refine ⟨_, rfl, ?_⟩; replace BK131 := bb_ BK131 hb; replace BK132 := bb_ BK132 hb; replace HB := bt_ HB hb; (try clear hb); obtain ⟨hcz11_0, hcz11_1, hcz11_2, hfz11_0, hfz11_1, hfz11_2⟩ := ch3_ BK132))
  refine bodyPost_ret (results_ct rfl _ _ gb132 25 #[.int .i64 t133, .int .i64 t134, .int .i64 t135] (0, 0) _ rfl (bp_ BK132).out Try.underlying25 rfl (by kernel_rfl)) rfl ?_
  exact ⟨es_, (bw_ HB).out⟩
 ·rw [if_neg c4] at H
  have c4b0 : (a2 == 0) = false := beq_eq_false_iff_ne.mpr c4
  have c4b1 : (a2 != 0) = true := bne_iff_ne.mpr c4
  replace H := ob_ H
  obtain ⟨⟨t137, t138, t139, t140⟩, A120, H⟩ := H
  have A12 := Aside0.mk A120
  clear A120
  simp only [Option.some.injEq, Prod.mk.injEq] at H
  obtain ⟨rfl, rfl, rfl, rfl⟩ := H
  go_enter Try.func150, Try.ntmps150
  go_wp2_with (first | ((refine gd_ 4 ?_); refine bx_ 4 #[.int .i64 a1_0, .int .i64 a1_1, .int .i64 a1_2] 25 ?_; intro gb131 hg w13 BK131 hb; have GW131 := bs_ HB hg; have GE131 := bs_ HB hg; replace HB := bt_ HB hb; clear hb hg) | ((refine gd_ 6 ?_); refine bx_ 6 #[.int .i64 0, .int .i64 0, .int .i64 0] 25 ?_; intro gb132 hg w14 BK132 hb; have GW132 := bs_ HB hg; have GE132 := bs_ HB hg; have NB131_132 := bm_ BK131 hg; have NB132_131 := bn_ BK131 hg; replace BK131 := bb_ BK131 hb; replace HB := bt_ HB hb; clear hb hg; have hnb15 := NB131_132.out; have hnc15 := NB132_131.out; obtain ⟨hcz16_0, hcz16_1, hcz16_2, hfz16_0, hfz16_1, hfz16_2⟩ := ch3_ BK131) | ((refine gc_ 185 ?_); refine ge_ 19 Try.func185 #[.int .i64 a0, .agg #[.int .i64 a1_0, .int .i64 a1_1, .int .i64 a1_2], .int .i64 (wrap64 (a2 - 1))] ?_; (with_reducible refine (impl_child.calls k a0 a1_0 a1_1 a1_2 (wrap64 (a2 - 1)) t137 t138 t139 t140 _ A12.out).mono ?_); rintro e w17 ⟨rfl, hb⟩; refine ⟨_, rfl, ?_⟩; replace BK131 := bb_ BK131 hb; replace BK132 := bb_ BK132 hb; replace HB := bt_ HB hb; (try clear hb); obtain ⟨hcz18_0, hcz18_1, hcz18_2, hfz18_0, hfz18_1, hfz18_2⟩ := ch3_ BK132))
  refine bodyPost_ret (results_ct rfl _ _ gb132 25 #[.int .i64 t137, .int .i64 t138, .int .i64 t139] (0, 0) _ rfl (bp_ BK132).out Try.underlying25 rfl (by kernel_rfl)) rfl ?_
  exact ⟨es_, (bw_ HB).out⟩
end Go.Proofs.Ytgoeelhiffbjlaa.QT
