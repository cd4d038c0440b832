import Derived.Test.YtgoeelhiffbjlaaQBx64
namespace Go.Proofs.Ytgoeelhiffbjlaa.QB
set_option maxHeartbeats 8000000
set_option maxRecDepth 100000
open Go.RowKit YtgoeelhiffbjlaaW.PrintWords YtgoeelhiffbjlaaW.PrintLast YtgoeelhiffbjlaaW.PrintMore
attribute [local go_sem] isSome_setCell max2_int min2_int max_two min_two max_three min_three max_four min_four
set_option linter.unusedVariables false
set_option linter.unusedSimpArgs false
def impl_unit.f (k : Nat) (a0 a1 : Int) : Option (Int) := (impl_valuation.f k a0 a1).bind fun t367 => ((impl_power.f k a0 t367).bind fun t368 => (if t368 = 0 then (none) else (some (wrap64 (Int.tdiv a1 t368)))))
theorem impl_unit.calls (k : Nat) (a0 a1 r : Int) (w : World) (h : impl_unit.f k a0 a1 = some r) :
  Calls Try.prog 190 #[.int .i64 a0, .int .i64 a1] w fun e w' => e = .returned (.int .i64 r) ∧ Drawn0 w w' := by
 unfold impl_unit.f at h
 have H := h
 clear h
 replace H := oc_ H
 obtain ⟨t367, A3, H⟩ := H
 replace H := oc_ H
 obtain ⟨t368, A4, H⟩ := H
 replace H := ief_ H
 obtain ⟨c5, c5b0, c5b1, H⟩ := H
 obtain rfl := si_ H
 go_enter Try.func190, Try.ntmps190
 go_wp2_with (first | ((refine gc_ 164 ?_); refine ge_ 9 Try.func164 #[.int .i64 a0, .int .i64 a1] ?_; (with_reducible refine (impl_valuation.calls k a0 a1 t367 _ A3.out).mono ?_); rintro e w' ⟨rfl, ⟨nd, rfl⟩⟩; refine ⟨_, rfl, ?_⟩) | ((refine gc_ 162 ?_); refine ge_ 10 Try.func162 #[.int .i64 a0, .int .i64 t367] ?_; (with_reducible refine (impl_power.calls k a0 t367 t368 _ A4.out).mono ?_); rintro e w' ⟨rfl, ⟨nd, rfl⟩⟩; refine ⟨_, rfl, ?_⟩))
 go_ret
 exact ⟨en_, de_⟩
def impl_inverse.l0 : Nat → Int → Int → Int → Int → Int → Option (Int)
 | 0, _, _, _, _, _ => none
 | k + 1, x1, x5, x6, x7, x8 => if x6 = 0 then ((impl_mod.f x7 x1).bind fun t370 => (some t370)) else (impl_inverse.l0 k x1 x6 (wrap64 (x5 - (wrap64 ((wrap64 (Int.tdiv x5 x6)) * x6)))) x8 (wrap64 (x7 - (wrap64 ((wrap64 (Int.tdiv x5 x6)) * x8)))))
def impl_inverse.f (k : Nat) (a0 a1 : Int) : Option (Int) := (impl_mod.f a0 a1).bind fun t369 => (impl_inverse.l0 k a1 t369 a1 1 0)
theorem impl_inverse.calls (k : Nat) (a0 a1 r : Int) (w : World) (h : impl_inverse.f k a0 a1 = some r) :
  Calls Try.prog 191 #[.int .i64 a0, .int .i64 a1] w fun e w' => e = .returned (.int .i64 r) ∧ Drawn0 w w' := by
 unfold impl_inverse.f at h
 have H := h
 clear h
 replace H := oc_ H
 obtain ⟨t369, A3, H⟩ := H
 have H' := Aside0.mk H
 clear H
 go_enter Try.func191, Try.ntmps191
 go_wp2_with (first | ((refine gc_ 203 ?_); refine ge_ 12 Try.func203 #[.int .i64 a0, .int .i64 a1] ?_; (with_reducible refine (impl_mod.calls a0 a1 t369 _ A3.out).mono ?_); rintro e w' ⟨rfl, ⟨nd, rfl⟩⟩; refine ⟨_, rfl, ?_⟩))
 go_loopg [5, 6, 7, 8] k (fun kq v5 v6 v7 v8 w' => ∃ (x5_1 : Int) (x6_1 : Int) (x7_1 : Int) (x8_1 : Int), v5 = .int .i64 x5_1 ∧ v6 = .int .i64 x6_1 ∧ v7 = .int .i64 x7_1 ∧ v8 = .int .i64 x8_1 ∧ Aside0 (impl_inverse.l0 kq a1 x5_1 x6_1 x7_1 x8_1 = some r) ∧ Aside0 (kq ≤ k) ∧ Drawn0 w w')
 case atStart => exact ⟨(t369), (a1), (1), (0), en_, en_, en_, en_, H', ⟨Nat.le_refl _⟩, de_⟩
 clear H'
 obtain ⟨x5_1, x6_1, x7_1, x8_1, rfl, rfl, rfl, rfl, HA, HK1, ⟨m1, rfl⟩⟩ := hrel
 cases gk with
 | zero => exact absurd HA.out (by simp [impl_inverse.l0])
 | succ k1 =>
  have H := HA.out
  clear HA
  simp only [impl_inverse.l0] at H
  replace H := ie_ H
  rcases H with ⟨c4b0, c4b1, H⟩ | ⟨c4, c4b0, c4b1, H⟩
  ·replace H := oc_ H
   obtain ⟨t370, A5, H⟩ := H
   obtain rfl := si_ H
   go_wp2_with (first | ((refine gc_ 203 ?_); refine ge_ 33 Try.func203 #[.int .i64 x7_1, .int .i64 a1] ?_; (with_reducible refine (impl_mod.calls x7_1 a1 t370 _ A5.out).mono ?_); rintro e w' ⟨rfl, ⟨nd, rfl⟩⟩; refine ⟨_, rfl, ?_⟩))
   go_ret
   exact ⟨en_, de_⟩
  have H' := Aside0.mk H
  clear H
  go_wp2
  go_roundg k1
  case measure => have := HK1.out; omega
  case rel => exact ⟨(x6_1), (wrap64 (x5_1 - (wrap64 ((wrap64 (Int.tdiv x5_1 x6_1)) * x6_1)))), (x8_1), (wrap64 (x7_1 - (wrap64 ((wrap64 (Int.tdiv x5_1 x6_1)) * x8_1)))), en_, en_, en_, en_, H', ⟨by have := HK1.out; omega⟩, de_⟩
def impl_ofMark.f (k : Nat) (a0 a1 a2 : Int) : Option (Int × Int × Int × Bool) := (impl_isLevel.f a1).bind fun t372 => (if t372 = true then ((impl_power.f k a0 (wrap64 (a1 + 6))).bind fun t373 => ((impl_mod.f a2 t373).bind fun t374 => ((impl_valuation.f k a0 t374).bind fun t375 => ((impl_power.f k a0 (wrap64 (6 - (mx (wrap64 (6 - t375)) 0)))).bind fun t376 => (if t376 = 0 then (none) else (some (a1, wrap64 (Int.tdiv t374 t376), mx (wrap64 (6 - t375)) 0, true))))))) else (some (0, 0, 0, false)))
theorem impl_ofMark.calls (k : Nat) (a0 a1 a2 r1 r2 r3 : Int) (r4 : Bool) (w : World) (h : impl_ofMark.f k a0 a1 a2 = some (r1, r2, r3, r4)) :
  Calls Try.prog 192 #[.int .i64 a0, .int .i64 a1, .int .i64 a2] w fun e w' => e = .returned (.tuple #[.agg #[.int .i64 r1, .int .i64 r2, .int .i64 r3], .bool r4]) ∧ Below w.heap.size w w' := by
 have hu25 := Try.underlying25
 have HB := Aside0.mk (Below.refl w.heap.size w)
 unfold impl_ofMark.f at h
 have H := h
 clear h
 replace H := oc_ H
 obtain ⟨t372, A4, H⟩ := H
 replace H := ib_ H
 rcases H with ⟨rfl, H⟩ | ⟨rfl, H⟩
 ·replace H := oc_ H
  obtain ⟨t373, A6, H⟩ := H
  replace H := oc_ H
  obtain ⟨t374, A7, H⟩ := H
  replace H := oc_ H
  obtain ⟨t375, A8, H⟩ := H
  obtain ⟨ji9, hji9⟩ : ∃ j_ : Int, (mx (wrap64 (6 - t375)) 0) = j_ := ⟨_, rfl⟩
  replace H : ((impl_power.f k a0 (wrap64 (6 - (ji9)))).bind fun t376 => (if t376 = 0 then (none) else (some (a1, wrap64 (Int.tdiv t374 t376), ji9, true)))) = some (r1, r2, r3, r4) := by first | (rw [hji9] at H; exact H) | (simp only [hji9] at H ⊢; exact H)
  (try rw [hji9] at A4)
  (try rw [hji9] at A6)
  (try rw [hji9] at A7)
  (try rw [hji9] at A8)
  (try (have hji9l : 0 ≤ ji9 := by (rw [← hji9]; unfold mx; (repeat' split) <;> omega)))
  (try (have hji9m : 0 ≤ ji9 := by omega))
  have hji9_ : (if (wrap64 (6 - t375)) < 0 then 0 else (wrap64 (6 - t375))) = ji9 := hji9
  replace H := oc_ H
  obtain ⟨t376, A10, H⟩ := H
  replace H := ief_ H
  obtain ⟨c11, c11b0, c11b1, H⟩ := H
  simp only [Option.some.injEq, Prod.mk.injEq] at H
  obtain ⟨rfl, rfl, rfl, rfl⟩ := H
  go_enter Try.func192, Try.ntmps192
  go_wp2_with (first | ((refine gd_ 6 ?_); refine by_ 6 #[.int .i64 0, .int .i64 0, .int .i64 0] 25 HB ?_; intro gb371 hg w12 BK371 hb GW371 HB_; replace HB := HB_; clear hb hg) | ((refine gc_ 161 ?_); refine ge_ 10 Try.func161 #[.int .i64 a1] ?_; (with_reducible refine (impl_isLevel.calls a1 true _ A4.out).mono ?_); rintro e w' ⟨rfl, ⟨nd, rfl⟩⟩; refine ⟨_, rfl, ?_⟩; (try (rw [drewN_self w12]; generalize hq_ : World.drewN w12 _ = w12; replace BK371 := bq_ BK371 hq_; replace HB := hq_' HB hq_; clear hq_))) | ((refine gc_ 162 ?_); refine ge_ 17 Try.func162 #[.int .i64 a0, .int .i64 (wrap64 (a1 + 6))] ?_; (with_reducible refine (impl_power.calls k a0 (wrap64 (a1 + 6)) t373 _ A6.out).mono ?_); rintro e w' ⟨rfl, ⟨nd, rfl⟩⟩; refine ⟨_, rfl, ?_⟩; (try (rw [drewN_self w12]; generalize hq_ : World.drewN w12 _ = w12; replace BK371 := bq_ BK371 hq_; replace HB := hq_' HB hq_; clear hq_))) | ((refine gc_ 203 ?_); refine ge_ 18 Try.func203 #[.int .i64 a2, .int .i64 t373] ?_; (with_reducible refine (impl_mod.calls a2 t373 t374 _ A7.out).mono ?_); rintro e w' ⟨rfl, ⟨nd, rfl⟩⟩; refine ⟨_, rfl, ?_⟩; (try (rw [drewN_self w12]; generalize hq_ : World.drewN w12 _ = w12; replace BK371 := bq_ BK371 hq_; replace HB := hq_' HB hq_; clear hq_))) | ((refine gc_ 164 ?_); refine ge_ 21 Try.func164 #[.int .i64 a0, .int .i64 t374] ?_; (with_reducible refine (impl_valuation.calls k a0 t374 t375 _ A8.out).mono ?_); rintro e w' ⟨rfl, ⟨nd, rfl⟩⟩; refine ⟨_, rfl, ?_⟩; (try (rw [drewN_self w12]; generalize hq_ : World.drewN w12 _ = w12; replace BK371 := bq_ BK371 hq_; replace HB := hq_' HB hq_; clear hq_))) | ((refine gc_ 162 ?_); refine ge_ 29 Try.func162 #[.int .i64 a0, .int .i64 (wrap64 (6 - (ji9)))] ?_ (hargs := by (try simp only [List.map_toArray, List.map_cons, List.map_nil]); first | done | (simp only [hji9]; rfl) | rfl | (simp only [List.length_drop, List.length_take]; rfl)); (with_reducible refine (impl_power.calls k a0 (wrap64 (6 - (ji9))) t376 _ A10.out).mono ?_); rintro e w' ⟨rfl, ⟨nd, rfl⟩⟩; refine ⟨_, rfl, ?_⟩; (try (rw [drewN_self w12]; generalize hq_ : World.drewN w12 _ = w12; replace BK371 := bq_ BK371 hq_; replace HB := hq_' HB hq_; clear hq_)); obtain ⟨hcz13_0, hcz13_1, hcz13_2, hfz13_0, hfz13_1, hfz13_2⟩ := ch3_ BK371))
  refine bodyPost_ret (results_ct rfl _ _ gb371 25 #[.int .i64 a1, .int .i64 (wrap64 (Int.tdiv t374 t376)), .int .i64 ji9] (0, 0) _ rfl (bp_ BK371).out Try.underlying25 rfl (by kernel_rfl)) rfl ?_
  exact ⟨by first | rfl | (simp [errW_none, errW_some] <;> rfl) | (simp only [← hji9]; first | rfl | (simp [errW_none, errW_some] <;> rfl)) | (simp [*, errW_none, errW_some] <;> rfl), (bw_ HB).out⟩
 simp only [Option.some.injEq, Prod.mk.injEq] at H
 obtain ⟨rfl, rfl, rfl, rfl⟩ := H
 go_enter Try.func192, Try.ntmps192
 go_wp2_with (first | ((refine gd_ 6 ?_); refine by_ 6 #[.int .i64 0, .int .i64 0, .int .i64 0] 25 HB ?_; intro gb371 hg w14 BK371 hb GW371 HB_; replace HB := HB_; clear hb hg) | ((refine gc_ 161 ?_); refine ge_ 10 Try.func161 #[.int .i64 a1] ?_; (with_reducible refine (impl_isLevel.calls a1 false _ A4.out).mono ?_); rintro e w' ⟨rfl, ⟨nd, rfl⟩⟩; refine ⟨_, rfl, ?_⟩; (try (rw [drewN_self w14]; generalize hq_ : World.drewN w14 _ = w14; replace BK371 := bq_ BK371 hq_; replace HB := hq_' HB hq_; clear hq_)); obtain ⟨hcz15_0, hcz15_1, hcz15_2, hfz15_0, hfz15_1, hfz15_2⟩ := ch3_ BK371))
 refine bodyPost_ret (results_ct rfl _ _ gb371 25 #[.int .i64 0, .int .i64 0, .int .i64 0] (0, 0) _ rfl (bp_ BK371).out Try.underlying25 rfl (by kernel_rfl)) rfl ?_
 exact ⟨es_, (bw_ HB).out⟩
def impl_ballAt.j0 : Nat → Int → Int → Int → Int → Int → Bool → Option (Int × Int × Int × Bool)
 | 0, _, _, _, _, _, _ => none
 | k + 1, x0, x1, x2, x3, x10, x24 => if x24 = true then (some (x3, 0, 0, true)) else (if x10 < (-6) then (some (0, 0, 0, false)) else ((impl_power.f k x0 (wrap64 (x3 + 6))).bind fun t381 => ((impl_unit.f k x0 x1).bind fun t382 => ((impl_unit.f k x0 x2).bind fun t383 => ((impl_inverse.f k t383 t381).bind fun t384 => ((impl_times.f k t382 t384 t381).bind fun t385 => ((impl_power.f k x0 (wrap64 (x10 + 6))).bind fun t386 => ((impl_times.f k t385 t386 t381).bind fun t387 => ((impl_ofMark.f k x0 x3 t387).bind fun bt388 => (some (bt388.1, bt388.2.1, bt388.2.2.1, bt388.2.2.2)))))))))))
def impl_ballAt.f (k : Nat) (a0 a1 a2 a3 : Int) : Option (Int × Int × Int × Bool) := (impl_isLevel.f a3).bind fun t378 => (if t378 = true then ((impl_valuation.f k a0 a1).bind fun t379 => ((impl_valuation.f k a0 a2).bind fun t380 => (if a1 = 0 then (impl_ballAt.j0 k a0 a1 a2 a3 (wrap64 (t379 - t380)) true) else (impl_ballAt.j0 k a0 a1 a2 a3 (wrap64 (t379 - t380)) (decide ((wrap64 (t379 - t380)) ≥ a3)))))) else (some (0, 0, 0, false)))
theorem impl_ballAt.calls (k : Nat) (a0 a1 a2 a3 r1 r2 r3 : Int) (r4 : Bool) (w : World) (h : impl_ballAt.f k a0 a1 a2 a3 = some (r1, r2, r3, r4)) :
  Calls Try.prog 165 #[.int .i64 a0, .int .i64 a1, .int .i64 a2, .int .i64 a3] w fun e w' => e = .returned (.tuple #[.agg #[.int .i64 r1, .int .i64 r2, .int .i64 r3], .bool r4]) ∧ Below w.heap.size w w' := by
 have hu25 := Try.underlying25
 have HB := Aside0.mk (Below.refl w.heap.size w)
 unfold impl_ballAt.f at h
 have H := h
 clear h
 replace H := oc_ H
 obtain ⟨t378, A5, H⟩ := H
 replace H := ib_ H
 rcases H with ⟨rfl, H⟩ | ⟨rfl, H⟩
 ·replace H := oc_ H
  obtain ⟨t379, A7, H⟩ := H
  replace H := oc_ H
  obtain ⟨t380, A8, H⟩ := H
  have HC9 := Aside0.mk H
  clear H
  go_enter Try.func165, Try.ntmps165
  go_upto_region 4 with (first | ((refine gd_ 8 ?_); refine by_ 8 #[.int .i64 0, .int .i64 0, .int .i64 0] 25 HB ?_; intro gb377 hg w10 BK377 hb GW377 HB_; replace HB := HB_; clear hb hg) | ((refine gc_ 161 ?_); refine ge_ 14 Try.func161 #[.int .i64 a3] ?_; (with_reducible refine (impl_isLevel.calls a3 true _ A5.out).mono ?_); rintro e w' ⟨rfl, ⟨nd, rfl⟩⟩; refine ⟨_, rfl, ?_⟩) | ((refine gc_ 164 ?_); refine ge_ 19 Try.func164 #[.int .i64 a0, .int .i64 a1] ?_; (with_reducible refine (impl_valuation.calls k a0 a1 t379 _ A7.out).mono ?_); rintro e w' ⟨rfl, ⟨nd, rfl⟩⟩; refine ⟨_, rfl, ?_⟩) | ((refine gc_ 164 ?_); refine ge_ 22 Try.func164 #[.int .i64 a0, .int .i64 a2] ?_; (with_reducible refine (impl_valuation.calls k a0 a2 t380 _ A8.out).mono ?_); rintro e w' ⟨rfl, ⟨nd, rfl⟩⟩; refine ⟨_, rfl, ?_⟩))
  (try simp only [Act.put, lstS, lstZ, lstC])
  go_cut [24] (fun v24 wc => ∃ (kq : Nat) (x24_8 : Bool), v24 = .bool x24_8 ∧ Aside0 (impl_ballAt.j0 kq a0 a1 a2 a3 (wrap64 (t379 - t380)) x24_8 = some (r1, r2, r3, r4)) ∧ Aside0 (kq ≤ k) ∧ Aside0 (wc.heap[gb377]? = some (.cells #[.int .i64 0, .int .i64 0, .int .i64 0] 25 (0, 0))) ∧ Aside0 (Below w.heap.size w wc))
  case first =>
   have H := HC9.out
   clear HC9
   replace H := ie_ H
   rcases H with ⟨c11b0, c11b1, H⟩ | ⟨c11, c11b0, c11b1, H⟩
   ·(first | rw [c11b0] | (simp only [i64_w, i32_w]; rw [c11b0]) | skip)
    have H' := Aside0.mk H
    clear H
    go_wp2
    go_meet
    case rel => exact ⟨_, (true), en_, H', ⟨by first | omega | exact Nat.le_refl _⟩, bl_ BK377, bw_ HB⟩
   (first | rw [c11b0] | (simp only [i64_w, i32_w]; rw [c11b0]) | skip)
   have H' := Aside0.mk H
   clear H
   go_wp2
   go_meet
   case rel => exact ⟨_, (decide ((wrap64 (t379 - t380)) ≥ a3)), en_, H', ⟨by first | omega | exact Nat.le_refl _⟩, bl_ BK377, bw_ HB⟩
  clear HC9
  try clear c11
  try clear c11b0
  try clear c11b1
  obtain ⟨kq, x24_8, rfl, HA, HJ8, BK377, HB⟩ := hcut
  cases kq with
  | zero => exact absurd HA.out (by simp [impl_ballAt.j0])
  | succ kj8 =>
   have H := HA.out
   clear HA
   simp only [impl_ballAt.j0] at H
   replace H := ib_ H
   rcases H with ⟨rfl, H⟩ | ⟨rfl, H⟩
   ·simp only [Option.some.injEq, Prod.mk.injEq] at H
    obtain ⟨rfl, rfl, rfl, rfl⟩ := H
    obtain ⟨hcz13_0, hcz13_1, hcz13_2, hfz13_0, hfz13_1, hfz13_2⟩ := ch3_ BK377
    go_wp2
    refine bodyPost_ret (results_ct rfl _ _ gb377 25 #[.int .i64 a3, .int .i64 0, .int .i64 0] (0, 0) _ rfl (bp_ BK377).out Try.underlying25 rfl (by kernel_rfl)) rfl ?_
    exact ⟨es_, (bw_ HB).out⟩
   replace H := il_ H
   rcases H with ⟨c14b0, H⟩ | ⟨c14b0, H⟩
   ·simp only [Option.some.injEq, Prod.mk.injEq] at H
    obtain ⟨rfl, rfl, rfl, rfl⟩ := H
    obtain ⟨hcz15_0, hcz15_1, hcz15_2, hfz15_0, hfz15_1, hfz15_2⟩ := ch3_ BK377
    go_wp2
    refine bodyPost_ret (results_ct rfl _ _ gb377 25 #[.int .i64 0, .int .i64 0, .int .i64 0] (0, 0) _ rfl (bp_ BK377).out Try.underlying25 rfl (by kernel_rfl)) rfl ?_
    exact ⟨es_, (bw_ HB).out⟩
   replace H := oc_ H
   obtain ⟨t381, A16, H⟩ := H
   replace H := oc_ H
   obtain ⟨t382, A17, H⟩ := H
   replace H := oc_ H
   obtain ⟨t383, A18, H⟩ := H
   replace H := oc_ H
   obtain ⟨t384, A19, H⟩ := H
   replace H := oc_ H
   obtain ⟨t385, A20, H⟩ := H
   replace H := oc_ H
   obtain ⟨t386, A21, H⟩ := H
   replace H := oc_ H
   obtain ⟨t387, A22, H⟩ := H
   replace H := oc_ H
   obtain ⟨⟨t388, t389, t390, t391⟩, A23, H⟩ := H
   simp only [Option.some.injEq, Prod.mk.injEq] at H
   obtain ⟨rfl, rfl, rfl, rfl⟩ := H
   go_wp2_with (first | ((refine gc_ 162 ?_); refine ge_ 41 Try.func162 #[.int .i64 a0, .int .i64 (wrap64 (a3 + 6))] ?_; (with_reducible refine (impl_power.calls kj8 a0 (wrap64 (a3 + 6)) t381 _ A16.out).mono ?_); rintro e w' ⟨rfl, ⟨nd, rfl⟩⟩; refine ⟨_, rfl, ?_⟩; (try (rw [drewN_self wc]; generalize hq_ : World.drewN wc _ = wc; replace BK377 := bq_ BK377 hq_; replace HB := hq_' HB hq_; clear hq_))) | ((refine gc_ 190 ?_); refine ge_ 44 Try.func190 #[.int .i64 a0, .int .i64 a1] ?_; (with_reducible refine (impl_unit.calls kj8 a0 a1 t382 _ A17.out).mono ?_); rintro e w' ⟨rfl, ⟨nd, rfl⟩⟩; refine ⟨_, rfl, ?_⟩; (try (rw [drewN_self wc]; generalize hq_ : World.drewN wc _ = wc; replace BK377 := bq_ BK377 hq_; replace HB := hq_' HB hq_; clear hq_))) | ((refine gc_ 190 ?_); refine ge_ 47 Try.func190 #[.int .i64 a0, .int .i64 a2] ?_; (with_reducible refine (impl_unit.calls kj8 a0 a2 t383 _ A18.out).mono ?_); rintro e w' ⟨rfl, ⟨nd, rfl⟩⟩; refine ⟨_, rfl, ?_⟩; (try (rw [drewN_self wc]; generalize hq_ : World.drewN wc _ = wc; replace BK377 := bq_ BK377 hq_; replace HB := hq_' HB hq_; clear hq_))) | ((refine gc_ 191 ?_); refine ge_ 49 Try.func191 #[.int .i64 t383, .int .i64 t381] ?_; (with_reducible refine (impl_inverse.calls kj8 t383 t381 t384 _ A19.out).mono ?_); rintro e w' ⟨rfl, ⟨nd, rfl⟩⟩; refine ⟨_, rfl, ?_⟩; (try (rw [drewN_self wc]; generalize hq_ : World.drewN wc _ = wc; replace BK377 := bq_ BK377 hq_; replace HB := hq_' HB hq_; clear hq_))) | ((refine gc_ 189 ?_); refine ge_ 51 Try.func189 #[.int .i64 t382, .int .i64 t384, .int .i64 t381] ?_; (with_reducible refine (impl_times.calls kj8 t382 t384 t381 t385 _ A20.out).mono ?_); rintro e w' ⟨rfl, ⟨nd, rfl⟩⟩; refine ⟨_, rfl, ?_⟩; (try (rw [drewN_self wc]; generalize hq_ : World.drewN wc _ = wc; replace BK377 := bq_ BK377 hq_; replace HB := hq_' HB hq_; clear hq_))) | ((refine gc_ 162 ?_); refine ge_ 58 Try.func162 #[.int .i64 a0, .int .i64 (wrap64 ((wrap64 (t379 - t380)) + 6))] ?_; (with_reducible refine (impl_power.calls kj8 a0 (wrap64 ((wrap64 (t379 - t380)) + 6)) t386 _ A21.out).mono ?_); rintro e w' ⟨rfl, ⟨nd, rfl⟩⟩; refine ⟨_, rfl, ?_⟩; (try (rw [drewN_self wc]; generalize hq_ : World.drewN wc _ = wc; replace BK377 := bq_ BK377 hq_; replace HB := hq_' HB hq_; clear hq_))) | ((refine gc_ 189 ?_); refine ge_ 60 Try.func189 #[.int .i64 t385, .int .i64 t386, .int .i64 t381] ?_; (with_reducible refine (impl_times.calls kj8 t385 t386 t381 t387 _ A22.out).mono ?_); rintro e w' ⟨rfl, ⟨nd, rfl⟩⟩; refine ⟨_, rfl, ?_⟩; (try (rw [drewN_self wc]; generalize hq_ : World.drewN wc _ = wc; replace BK377 := bq_ BK377 hq_; replace HB := hq_' HB hq_; clear hq_))) | ((refine gc_ 192 ?_); refine ge_ 61 Try.func192 #[.int .i64 a0, .int .i64 a3, .int .i64 t387] ?_; (with_reducible refine (impl_ofMark.calls kj8 a0 a3 t387 t388 t389 t390 t391 _ A23.out).mono ?_); rintro e w24 ⟨rfl, hb⟩; refine ⟨_, rfl, ?_⟩; replace BK377 := bb_ BK377 hb; replace HB := bt_ HB hb; (try clear hb); obtain ⟨hcz25_0, hcz25_1, hcz25_2, hfz25_0, hfz25_1, hfz25_2⟩ := ch3_ BK377))
   refine bodyPost_ret (results_ct rfl _ _ gb377 25 #[.int .i64 t388, .int .i64 t389, .int .i64 t390] (0, 0) _ rfl (bp_ BK377).out Try.underlying25 rfl (by kernel_rfl)) rfl ?_
   exact ⟨es_, (bw_ HB).out⟩
 simp only [Option.some.injEq, Prod.mk.injEq] at H
 obtain ⟨rfl, rfl, rfl, rfl⟩ := H
 go_enter Try.func165, Try.ntmps165
 go_wp2_with (first | ((refine gd_ 8 ?_); refine by_ 8 #[.int .i64 0, .int .i64 0, .int .i64 0] 25 HB ?_; intro gb377 hg w26 BK377 hb GW377 HB_; replace HB := HB_; clear hb hg) | ((refine gc_ 161 ?_); refine ge_ 14 Try.func161 #[.int .i64 a3] ?_; (with_reducible refine (impl_isLevel.calls a3 false _ A5.out).mono ?_); rintro e w' ⟨rfl, ⟨nd, rfl⟩⟩; refine ⟨_, rfl, ?_⟩; (try (rw [drewN_self w26]; generalize hq_ : World.drewN w26 _ = w26; replace BK377 := bq_ BK377 hq_; replace HB := hq_' HB hq_; clear hq_)); obtain ⟨hcz27_0, hcz27_1, hcz27_2, hfz27_0, hfz27_1, hfz27_2⟩ := ch3_ BK377))
 refine bodyPost_ret (results_ct rfl _ _ gb377 25 #[.int .i64 0, .int .i64 0, .int .i64 0] (0, 0) _ rfl (bp_ BK377).out Try.underlying25 rfl (by kernel_rfl)) rfl ?_
 exact ⟨es_, (bw_ HB).out⟩
end Go.Proofs.Ytgoeelhiffbjlaa.QB
