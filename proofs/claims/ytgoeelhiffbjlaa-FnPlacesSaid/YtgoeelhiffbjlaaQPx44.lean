import Derived.Test.YtgoeelhiffbjlaaQPx9
import Derived.Test.YtgoeelhiffbjlaaQPx31
import Derived.Test.YtgoeelhiffbjlaaQPx38
import Derived.Test.YtgoeelhiffbjlaaQPx20
namespace Go.Proofs.Ytgoeelhiffbjlaa.QP
set_option maxHeartbeats 8000000
set_option maxRecDepth 100000
open Go.RowKit Go.Proofs.YtgoeelhiffbjlaaW.PrintWords Go.Proofs.YtgoeelhiffbjlaaW.PrintLast Go.Proofs.YtgoeelhiffbjlaaW.PrintMore
attribute [local go_sem] isSome_setCell max2_int min2_int max_two min_two max_three min_three max_four min_four
set_option linter.unusedVariables false
set_option linter.unusedSimpArgs false

/-! ### impl_BallOfPlace: function 43 -/
def impl_BallOfPlace.j0 : Nat → Int → Int → Bool → Int → Int → Int → Option (Int × Int × Int × Int)
 | 0, _, _, _, _, _, _ => none
 | k + 1, x0, x2, x17, x349000, x349001, x349002 => if x17 = true then (some (0, 0, 0, 2)) else ((impl_ballOfPlace.f k x0 x349000 x349001 x349002 x2).bind fun bt352 => ((impl_fitted.f bt352.1 bt352.2.1 bt352.2.2.1 bt352.2.2.2.2.2.2).bind fun bt361 => (some (bt361.1, bt361.2.1, bt361.2.2.1, bt361.2.2.2))))
def impl_BallOfPlace.f (k : Nat) (a0 a1_0 a1_1 a1_2 a2 : Int) : Option (Int × Int × Int × Int) := (impl_IsBall.f k a0 a1_0 a1_1 a1_2).bind fun t350 => (if t350 = true then (if a2 < 0 then (impl_BallOfPlace.j0 k a0 a2 true a1_0 a1_1 a1_2) else (if a2 > 500 then (impl_BallOfPlace.j0 k a0 a2 true a1_0 a1_1 a1_2) else ((impl_depthOf.f k a0 a2).bind fun t351 => (impl_BallOfPlace.j0 k a0 a2 (decide (t351 > 4)) a1_0 a1_1 a1_2)))) else (some (0, 0, 0, 1)))
theorem impl_BallOfPlace.calls (k : Nat) (a0 a1_0 a1_1 a1_2 a2 r1 r2 r3 r4 : Int) (w : World) (h : impl_BallOfPlace.f k a0 a1_0 a1_1 a1_2 a2 = some (r1, r2, r3, r4)) :
  Calls Try.prog 43 #[.int .i64 a0, .agg #[.int .i64 a1_0, .int .i64 a1_1, .int .i64 a1_2], .int .i64 a2] w fun e w' => e = .returned (.tuple #[.agg #[.int .i64 r1, .int .i64 r2, .int .i64 r3], .int .i64 r4]) ∧ Below w.heap.size w w' := by
 have hu25 := Try.underlying25
 have HB := Aside0.mk (Below.refl w.heap.size w)
 unfold impl_BallOfPlace.f at h
 have H := h
 clear h
 replace H := oc_ H
 obtain ⟨t350, A4, H⟩ := H
 replace H := ib_ H
 rcases H with ⟨rfl, H⟩ | ⟨rfl, H⟩
 ·have HC6 := Aside0.mk H
  clear H
  go_enter Try.func43, Try.ntmps43
  go_upto_region 3 with (first | ((refine gd_ 4 ?_); refine by_ 4 #[.int .i64 a1_0, .int .i64 a1_1, .int .i64 a1_2] 25 HB ?_; intro gb348 hg w7 BK348 hb GW348 HB_; replace HB := HB_; clear hb hg) | ((refine gd_ 6 ?_); refine by_ 6 #[.int .i64 0, .int .i64 0, .int .i64 0] 25 HB ?_; intro gb349 hg w8 BK349 hb GW349 HB_; have NB348_349 := bm_ BK348 hg; have NB349_348 := bn_ BK348 hg; replace BK348 := bb_ BK348 hb; replace HB := HB_; clear hb hg; have hnb9 := NB348_349.out; have hnc9 := NB349_348.out; obtain ⟨hcz10_0, hcz10_1, hcz10_2, hfz10_0, hfz10_1, hfz10_2⟩ := ch3_ BK348) | ((refine gc_ 94 ?_); refine ge_ 14 Try.func94 #[.int .i64 a0, .agg #[.int .i64 a1_0, .int .i64 a1_1, .int .i64 a1_2]] ?_; (with_reducible refine (impl_IsBall.calls k a0 a1_0 a1_1 a1_2 true _ A4.out).mono ?_); rintro e w11 ⟨rfl, hb⟩; refine ⟨_, rfl, ?_⟩; replace BK348 := bb_ BK348 hb; replace BK349 := bb_ BK349 hb; replace HB := bt_ HB hb; (try clear hb)))
  (try simp only [Act.put, lstS, lstZ, lstC])
  go_cut [17] (fun v17 wc => ∃ (kq : Nat) (x17_5 : Bool), v17 = .bool x17_5 ∧ Aside0 (impl_BallOfPlace.j0 kq a0 a2 x17_5 a1_0 a1_1 a1_2 = some (r1, r2, r3, r4)) ∧ Aside0 (kq ≤ k) ∧ Aside0 (wc.heap[gb348]? = some (.cells #[.int .i64 a1_0, .int .i64 a1_1, .int .i64 a1_2] 25 (0, 0))) ∧ Aside0 (wc.heap[gb349]? = some (.cells #[.int .i64 0, .int .i64 0, .int .i64 0] 25 (0, 0))) ∧ Aside0 (Below w.heap.size w wc))
  case first =>
   have H := HC6.out
   clear HC6
   replace H := il_ H
   rcases H with ⟨c12b0, H⟩ | ⟨c12b0, H⟩
   ·(first | rw [c12b0] | (simp only [i64_w, i32_w]; rw [c12b0]) | skip)
    have H' := Aside0.mk H
    clear H
    go_wp2
    go_meet
    case rel => exact ⟨_, (true), en_, H', ⟨by first | omega | exact Nat.le_refl _⟩, bl_ BK348, bl_ BK349, bw_ HB⟩
   (first | rw [c12b0] | (simp only [i64_w, i32_w]; rw [c12b0]) | skip)
   replace H := ig_ H
   rcases H with ⟨c13b0, H⟩ | ⟨c13b0, H⟩
   ·have H' := Aside0.mk H
    clear H
    go_wp2
    go_meet
    case rel => exact ⟨_, (true), en_, H', ⟨by first | omega | exact Nat.le_refl _⟩, bl_ BK348, bl_ BK349, bw_ HB⟩
   replace H := oc_ H
   obtain ⟨t351, A14, H⟩ := H
   have H' := Aside0.mk H
   clear H
   go_wp2_with (first | (go_at_call 111; (with_reducible refine (impl_depthOf.calls k a0 a2 t351 _ A14.out).mono ?_); rintro e w' ⟨rfl, ⟨nd, rfl⟩⟩))
   go_meet
   case rel => exact ⟨_, (decide (t351 > 4)), en_, H', ⟨by first | omega | exact Nat.le_refl _⟩, bl_ BK348, bl_ BK349, bw_ HB⟩
  clear HC6
  try clear c12b0
  try clear c13b0
  try clear hcz10_0 hcz10_1 hcz10_2
  try clear hfz10_0 hfz10_1 hfz10_2
  obtain ⟨kq, x17_5, rfl, HA, HJ5, BK348, BK349, HB⟩ := hcut
  cases kq with
  | zero => exact absurd HA.out (by simp [impl_BallOfPlace.j0])
  | succ kj5 =>
   have H := HA.out
   clear HA
   simp only [impl_BallOfPlace.j0] at H
   replace H := ib_ H
   rcases H with ⟨rfl, H⟩ | ⟨rfl, H⟩
   ·simp only [Option.some.injEq, Prod.mk.injEq] at H
    obtain ⟨rfl, rfl, rfl, rfl⟩ := H
    have hnb16 := NB349_348.out
    have hnc16 := NB348_349.out
    obtain ⟨hcz17_0, hcz17_1, hcz17_2, hfz17_0, hfz17_1, hfz17_2⟩ := ch3_ BK349
    go_wp2
    refine bodyPost_ret (results_ct rfl _ _ gb349 25 #[.int .i64 0, .int .i64 0, .int .i64 0] (0, 0) _ rfl (bp_ BK349).out Try.underlying25 rfl (by kernel_rfl)) rfl ?_
    exact ⟨es_, (bw_ HB).out⟩
   replace H := oc_ H
   obtain ⟨⟨t352, t353, t354, t355, t356, t357, t358⟩, A18, H⟩ := H
   replace H := oc_ H
   obtain ⟨⟨t361, t362, t363, t364⟩, A19, H⟩ := H
   simp only [Option.some.injEq, Prod.mk.injEq] at H
   obtain ⟨rfl, rfl, rfl, rfl⟩ := H
   have hnb20 := NB348_349.out
   have hnc20 := NB349_348.out
   obtain ⟨hcz21_0, hcz21_1, hcz21_2, hfz21_0, hfz21_1, hfz21_2⟩ := ch3_ BK348
   go_wp2_with (first | ((refine gc_ 112 ?_); refine ge_ 35 Try.func112 #[.int .i64 a0, .agg #[.int .i64 a1_0, .int .i64 a1_1, .int .i64 a1_2], .int .i64 a2] ?_; (with_reducible refine (impl_ballOfPlace.calls kj5 a0 a1_0 a1_1 a1_2 a2 t352 t353 t354 t355 t356 t357 t358 _ A18.out).mono ?_); rintro e w22 ⟨rfl, hb⟩; refine ⟨_, rfl, ?_⟩; replace BK348 := bb_ BK348 hb; replace BK349 := bb_ BK349 hb; replace HB := bt_ HB hb; (try clear hb)) | ((refine gd_ 8 ?_); refine by_ 8 #[.int .i64 0, .int .i64 0, .int .i64 0] 25 HB ?_; intro gb359 hg w23 BK359 hb GW359 HB_; have NB348_359 := bm_ BK348 hg; have NB359_348 := bn_ BK348 hg; have NB349_359 := bm_ BK349 hg; have NB359_349 := bn_ BK349 hg; replace BK348 := bb_ BK348 hb; replace BK349 := bb_ BK349 hb; replace HB := HB_; clear hb hg) | ((refine gd_ 9 ?_); refine by_ 9 #[.int .i64 0, .int .i64 0, .int .i64 0] 25 HB ?_; intro gb360 hg w24 BK360 hb GW360 HB_; have NB348_360 := bm_ BK348 hg; have NB360_348 := bn_ BK348 hg; have NB349_360 := bm_ BK349 hg; have NB360_349 := bn_ BK349 hg; have NB359_360 := bm_ BK359 hg; have NB360_359 := bn_ BK359 hg; replace BK348 := bb_ BK348 hb; replace BK349 := bb_ BK349 hb; replace BK359 := bb_ BK359 hb; replace HB := HB_; clear hb hg; have hnb25 := NB359_348.out; have hnc25 := NB348_359.out; have hnb26 := NB359_349.out; have hnc26 := NB349_359.out; have hnb27 := NB359_360.out; have hnc27 := NB360_359.out; obtain ⟨hcz28_0, hcz28_1, hcz28_2, hfz28_0, hfz28_1, hfz28_2⟩ := ch3_ BK359; have hnb29 := NB360_348.out; have hnc29 := NB348_360.out; have hnb30 := NB360_349.out; have hnc30 := NB349_360.out; obtain ⟨hcz31_0, hcz31_1, hcz31_2, hfz31_0, hfz31_1, hfz31_2⟩ := ch3_ BK360) | ((refine gc_ 95 ?_); refine ge_ 41 Try.func95 #[.agg #[.int .i64 t352, .int .i64 t353, .int .i64 t354], .bool t358] ?_; (with_reducible refine (impl_fitted.calls t352 t353 t354 t358 t361 t362 t363 t364 _ A19.out).mono ?_); rintro e w32 ⟨rfl, hb⟩; refine ⟨_, rfl, ?_⟩; replace BK348 := Aside0.mk (blk_below (g := gb348) (o := .cells #[.int .i64 a1_0, .int .i64 a1_1, .int .i64 a1_2] 25 (0, 0)) (bp_ BK348).out hb); replace BK349 := Aside0.mk (blk_below (g := gb349) (o := .cells #[.int .i64 0, .int .i64 0, .int .i64 0] 25 (0, 0)) (bp_ BK349).out hb); replace BK359 := Aside0.mk (blk_below (g := gb359) (o := .cells #[.int .i64 t352, .int .i64 t353, .int .i64 t354] 25 (0, 0)) (bp_ BK359).out hb); replace BK360 := Aside0.mk (blk_below (g := gb360) (o := .cells #[.int .i64 t355, .int .i64 t356, .int .i64 t357] 25 (0, 0)) (bp_ BK360).out hb); replace HB := bt_ HB hb; (try clear hb); obtain ⟨hcz33_0, hcz33_1, hcz33_2, hfz33_0, hfz33_1, hfz33_2⟩ := ch3_ BK349))
   refine bodyPost_ret (results_ct rfl _ _ gb349 25 #[.int .i64 t361, .int .i64 t362, .int .i64 t363] (0, 0) _ rfl (bp_ BK349).out Try.underlying25 rfl (by kernel_rfl)) rfl ?_
   exact ⟨es_, (bw_ HB).out⟩
 simp only [Option.some.injEq, Prod.mk.injEq] at H
 obtain ⟨rfl, rfl, rfl, rfl⟩ := H
 go_enter Try.func43, Try.ntmps43
 go_wp2_with (first | ((refine gd_ 4 ?_); refine by_ 4 #[.int .i64 a1_0, .int .i64 a1_1, .int .i64 a1_2] 25 HB ?_; intro gb348 hg w34 BK348 hb GW348 HB_; replace HB := HB_; clear hb hg) | ((refine gd_ 6 ?_); refine by_ 6 #[.int .i64 0, .int .i64 0, .int .i64 0] 25 HB ?_; intro gb349 hg w35 BK349 hb GW349 HB_; have NB348_349 := bm_ BK348 hg; have NB349_348 := bn_ BK348 hg; replace BK348 := bb_ BK348 hb; replace HB := HB_; clear hb hg; have hnb36 := NB348_349.out; have hnc36 := NB349_348.out; obtain ⟨hcz37_0, hcz37_1, hcz37_2, hfz37_0, hfz37_1, hfz37_2⟩ := ch3_ BK348) | ((refine gc_ 94 ?_); refine ge_ 14 Try.func94 #[.int .i64 a0, .agg #[.int .i64 a1_0, .int .i64 a1_1, .int .i64 a1_2]] ?_; (with_reducible refine (impl_IsBall.calls k a0 a1_0 a1_1 a1_2 false _ A4.out).mono ?_); rintro e w38 ⟨rfl, hb⟩; refine ⟨_, rfl, ?_⟩; replace BK348 := bb_ BK348 hb; replace BK349 := bb_ BK349 hb; replace HB := bt_ HB hb; (try clear hb); obtain ⟨hcz39_0, hcz39_1, hcz39_2, hfz39_0, hfz39_1, hfz39_2⟩ := ch3_ BK349))
 refine bodyPost_ret (results_ct rfl _ _ gb349 25 #[.int .i64 0, .int .i64 0, .int .i64 0] (0, 0) _ rfl (bp_ BK349).out Try.underlying25 rfl (by kernel_rfl)) rfl ?_
 exact ⟨es_, (bw_ HB).out⟩
/-! ### spec_l01Prime: function 121 -/
def spec_l01Prime.f (a0 : Int) : Option (Bool) := if a0 = 2 then (some true) else (if a0 = 3 then (some true) else (if a0 = 5 then (some true) else (some (a0 == 7))))
theorem spec_l01Prime.calls (a0 : Int) (r : Bool) (w : World) (h : spec_l01Prime.f a0 = some r) :
  Calls Try.prog 121 #[.int .i64 a0] w fun e w' => e = .returned (.bool r) ∧ Drawn0 w w' := by
 unfold spec_l01Prime.f at h
 have H := h
 clear h
 replace H := ie_ H
 rcases H with ⟨c2b0, c2b1, H⟩ | ⟨c2, c2b0, c2b1, H⟩
 ·obtain rfl := si_ H
  go_enter Try.func121, Try.ntmps121
  go_wp2
  go_ret
  exact ⟨en_, de_⟩
 replace H := ie_ H
 rcases H with ⟨c3b0, c3b1, H⟩ | ⟨c3, c3b0, c3b1, H⟩
 ·obtain rfl := si_ H
  go_enter Try.func121, Try.ntmps121
  go_wp2
  go_ret
  exact ⟨en_, de_⟩
 replace H := ie_ H
 rcases H with ⟨c4b0, c4b1, H⟩ | ⟨c4, c4b0, c4b1, H⟩
 ·obtain rfl := si_ H
  go_enter Try.func121, Try.ntmps121
  go_wp2
  go_ret
  exact ⟨en_, de_⟩
 obtain rfl := si_ H
 go_enter Try.func121, Try.ntmps121
 go_wp2
 go_ret
 exact ⟨en_, de_⟩
/-! ### spec_l01Is: function 123 -/
def spec_l01Is.j0 : Nat → Int → Bool → Int → Int → Int → Option (Bool)
 | 0, _, _, _, _, _ => none
 | k + 1, x0, x20, x366000, x366001, x366002 => if x20 = true then (some false) else (if (wrap64 (x366000 + x366002)) ≤ 0 then (if x366001 = 0 then (some (x366002 == 0)) else (some false)) else ((spec_l01Power.f k x0 (wrap64 (x366000 + x366002))).bind fun t369 => ((spec_l01In.f x366001 0 (wrap64 (t369 - 1))).bind fun t370 => (if t370 = true then (if x366002 = 0 then (some true) else (if x0 = 0 then (none) else (some ((Int.tmod x366001 x0) != 0)))) else (some false)))))
def spec_l01Is.f (k : Nat) (a0 a1_0 a1_1 a1_2 : Int) : Option (Bool) := (spec_l01Prime.f a0).bind fun t366 => (if t366 = true then ((spec_l01In.f a1_0 (-6) 6).bind fun t367 => (if t367 = true then ((spec_l01In.f a1_2 0 6).bind fun t368 => (spec_l01Is.j0 k a0 (!t368) a1_0 a1_1 a1_2)) else (spec_l01Is.j0 k a0 true a1_0 a1_1 a1_2))) else (spec_l01Is.j0 k a0 true a1_0 a1_1 a1_2))
theorem spec_l01Is.calls (k : Nat) (a0 a1_0 a1_1 a1_2 : Int) (r : Bool) (w : World) (h : spec_l01Is.f k a0 a1_0 a1_1 a1_2 = some r) :
  Calls Try.prog 123 #[.int .i64 a0, .agg #[.int .i64 a1_0, .int .i64 a1_1, .int .i64 a1_2]] w fun e w' => e = .returned (.bool r) ∧ Below w.heap.size w w' := by
 have hu25 := Try.underlying25
 have HB := Aside0.mk (Below.refl w.heap.size w)
 unfold spec_l01Is.f at h
 have H := h
 clear h
 have HC3 := Aside0.mk H
 clear H
 go_enter Try.func123, Try.ntmps123
 go_upto_region 1 with (first | ((refine gd_ 3 ?_); refine by_ 3 #[.int .i64 a1_0, .int .i64 a1_1, .int .i64 a1_2] 25 HB ?_; intro gb365 hg w4 BK365 hb GW365 HB_; replace HB := HB_; clear hb hg))
 repeat (go_quiet (first | ((refine gd_ 3 ?_); refine by_ 3 #[.int .i64 a1_0, .int .i64 a1_1, .int .i64 a1_2] 25 HB ?_; intro gb365 hg w4 BK365 hb GW365 HB_; replace HB := HB_; clear hb hg)); go_upto_region 1 with (first | ((refine gd_ 3 ?_); refine by_ 3 #[.int .i64 a1_0, .int .i64 a1_1, .int .i64 a1_2] 25 HB ?_; intro gb365 hg w4 BK365 hb GW365 HB_; replace HB := HB_; clear hb hg)))
 (try simp only [Act.put, lstS, lstZ, lstC])
 go_cut [20] (fun v20 wc => ∃ (kq : Nat) (x20_2 : Bool), v20 = .bool x20_2 ∧ Aside0 (spec_l01Is.j0 kq a0 x20_2 a1_0 a1_1 a1_2 = some r) ∧ Aside0 (kq ≤ k) ∧ Aside0 (wc.heap[gb365]? = some (.cells #[.int .i64 a1_0, .int .i64 a1_1, .int .i64 a1_2] 25 (0, 0))) ∧ Aside0 (Below w.heap.size w wc))
 case first =>
  have H := HC3.out
  clear HC3
  replace H := oc_ H
  obtain ⟨t366, A5, H⟩ := H
  replace H := ib_ H
  rcases H with ⟨rfl, H⟩ | ⟨rfl, H⟩
  ·replace H := oc_ H
   obtain ⟨t367, A7, H⟩ := H
   replace H := ib_ H
   rcases H with ⟨rfl, H⟩ | ⟨rfl, H⟩
   ·replace H := oc_ H
    obtain ⟨t368, A9, H⟩ := H
    have H' := Aside0.mk H
    clear H
    go_wp2_with (first | (go_at_call 121; (with_reducible refine (spec_l01Prime.calls a0 true _ A5.out).mono ?_); rintro e w' ⟨rfl, ⟨nd, rfl⟩⟩; (try exact dd_); obtain ⟨hcz10_0, hcz10_1, hcz10_2, hfz10_0, hfz10_1, hfz10_2⟩ := ch3_ BK365) | (go_at_call 109; (with_reducible refine (spec_l01In.calls a1_0 (-6) 6 true _ A7.out).mono ?_); rintro e w' ⟨rfl, ⟨nd, rfl⟩⟩; (try exact dd_)) | (go_at_call 109; (with_reducible refine (spec_l01In.calls a1_2 0 6 t368 _ A9.out).mono ?_); rintro e w' ⟨rfl, ⟨nd, rfl⟩⟩; (try exact dd_)))
    repeat (go_quiet (first | (go_at_call 121; (with_reducible refine (spec_l01Prime.calls a0 true _ A5.out).mono ?_); rintro e w' ⟨rfl, ⟨nd, rfl⟩⟩; (try exact dd_); obtain ⟨hcz10_0, hcz10_1, hcz10_2, hfz10_0, hfz10_1, hfz10_2⟩ := ch3_ BK365) | (go_at_call 109; (with_reducible refine (spec_l01In.calls a1_0 (-6) 6 true _ A7.out).mono ?_); rintro e w' ⟨rfl, ⟨nd, rfl⟩⟩; (try exact dd_)) | (go_at_call 109; (with_reducible refine (spec_l01In.calls a1_2 0 6 t368 _ A9.out).mono ?_); rintro e w' ⟨rfl, ⟨nd, rfl⟩⟩; (try exact dd_))); try go_wp2_with (first | (go_at_call 121; (with_reducible refine (spec_l01Prime.calls a0 true _ A5.out).mono ?_); rintro e w' ⟨rfl, ⟨nd, rfl⟩⟩; (try exact dd_); obtain ⟨hcz10_0, hcz10_1, hcz10_2, hfz10_0, hfz10_1, hfz10_2⟩ := ch3_ BK365) | (go_at_call 109; (with_reducible refine (spec_l01In.calls a1_0 (-6) 6 true _ A7.out).mono ?_); rintro e w' ⟨rfl, ⟨nd, rfl⟩⟩; (try exact dd_)) | (go_at_call 109; (with_reducible refine (spec_l01In.calls a1_2 0 6 t368 _ A9.out).mono ?_); rintro e w' ⟨rfl, ⟨nd, rfl⟩⟩; (try exact dd_))))
    go_meet
    case rel => exact ⟨_, (!t368), en_, H', ⟨by first | omega | exact Nat.le_refl _⟩, bl_ BK365, bw_ HB⟩
   have H' := Aside0.mk H
   clear H
   go_wp2_with (first | (go_at_call 121; (with_reducible refine (spec_l01Prime.calls a0 true _ A5.out).mono ?_); rintro e w' ⟨rfl, ⟨nd, rfl⟩⟩; (try exact dd_); obtain ⟨hcz11_0, hcz11_1, hcz11_2, hfz11_0, hfz11_1, hfz11_2⟩ := ch3_ BK365) | (go_at_call 109; (with_reducible refine (spec_l01In.calls a1_0 (-6) 6 false _ A7.out).mono ?_); rintro e w' ⟨rfl, ⟨nd, rfl⟩⟩; (try exact dd_)))
   repeat (go_quiet (first | (go_at_call 121; (with_reducible refine (spec_l01Prime.calls a0 true _ A5.out).mono ?_); rintro e w' ⟨rfl, ⟨nd, rfl⟩⟩; (try exact dd_); obtain ⟨hcz11_0, hcz11_1, hcz11_2, hfz11_0, hfz11_1, hfz11_2⟩ := ch3_ BK365) | (go_at_call 109; (with_reducible refine (spec_l01In.calls a1_0 (-6) 6 false _ A7.out).mono ?_); rintro e w' ⟨rfl, ⟨nd, rfl⟩⟩; (try exact dd_))); try go_wp2_with (first | (go_at_call 121; (with_reducible refine (spec_l01Prime.calls a0 true _ A5.out).mono ?_); rintro e w' ⟨rfl, ⟨nd, rfl⟩⟩; (try exact dd_); obtain ⟨hcz11_0, hcz11_1, hcz11_2, hfz11_0, hfz11_1, hfz11_2⟩ := ch3_ BK365) | (go_at_call 109; (with_reducible refine (spec_l01In.calls a1_0 (-6) 6 false _ A7.out).mono ?_); rintro e w' ⟨rfl, ⟨nd, rfl⟩⟩; (try exact dd_))))
   go_meet
   case rel => exact ⟨_, (true), en_, H', ⟨by first | omega | exact Nat.le_refl _⟩, bl_ BK365, bw_ HB⟩
  have H' := Aside0.mk H
  clear H
  go_wp2_with (first | (go_at_call 121; (with_reducible refine (spec_l01Prime.calls a0 false _ A5.out).mono ?_); rintro e w' ⟨rfl, ⟨nd, rfl⟩⟩; (try exact dd_)))
  repeat (go_quiet (first | (go_at_call 121; (with_reducible refine (spec_l01Prime.calls a0 false _ A5.out).mono ?_); rintro e w' ⟨rfl, ⟨nd, rfl⟩⟩; (try exact dd_))); try go_wp2_with (first | (go_at_call 121; (with_reducible refine (spec_l01Prime.calls a0 false _ A5.out).mono ?_); rintro e w' ⟨rfl, ⟨nd, rfl⟩⟩; (try exact dd_))))
  go_meet
  case rel => exact ⟨_, (true), en_, H', ⟨by first | omega | exact Nat.le_refl _⟩, bl_ BK365, bw_ HB⟩
 clear HC3
 try clear hcz10_0 hcz10_1 hcz10_2
 try clear hcz11_0 hcz11_1 hcz11_2
 try clear hfz10_0 hfz10_1 hfz10_2
 try clear hfz11_0 hfz11_1 hfz11_2
 obtain ⟨kq, x20_2, rfl, HA, HJ2, BK365, HB⟩ := hcut
 cases kq with
 | zero => exact absurd HA.out (by simp [spec_l01Is.j0])
 | succ kj2 =>
  have H := HA.out
  clear HA
  simp only [spec_l01Is.j0] at H
  replace H := ib_ H
  rcases H with ⟨rfl, H⟩ | ⟨rfl, H⟩
  ·obtain rfl := si_ H
   go_wp2
   repeat (go_quiet (fail); try go_wp2)
   go_ret
   exact ⟨es_, (bw_ HB).out⟩
  replace H := im_ H
  rcases H with ⟨c13b0, H⟩ | ⟨c13b0, H⟩
  ·replace H := ie_ H
   rcases H with ⟨c14b0, c14b1, H⟩ | ⟨c14, c14b0, c14b1, H⟩
   ·obtain rfl := si_ H
    obtain ⟨hcz15_0, hcz15_1, hcz15_2, hfz15_0, hfz15_1, hfz15_2⟩ := ch3_ BK365
    go_wp2
    repeat (go_quiet (fail); try go_wp2)
    go_ret
    exact ⟨es_, (bw_ HB).out⟩
   obtain rfl := si_ H
   obtain ⟨hcz16_0, hcz16_1, hcz16_2, hfz16_0, hfz16_1, hfz16_2⟩ := ch3_ BK365
   go_wp2
   repeat (go_quiet (fail); try go_wp2)
   go_ret
   exact ⟨es_, (bw_ HB).out⟩
  replace H := oc_ H
  obtain ⟨t369, A17, H⟩ := H
  replace H := oc_ H
  obtain ⟨t370, A18, H⟩ := H
  replace H := ib_ H
  rcases H with ⟨rfl, H⟩ | ⟨rfl, H⟩
  ·replace H := ie_ H
   rcases H with ⟨c20b0, c20b1, H⟩ | ⟨c20, c20b0, c20b1, H⟩
   ·obtain rfl := si_ H
    obtain ⟨hcz21_0, hcz21_1, hcz21_2, hfz21_0, hfz21_1, hfz21_2⟩ := ch3_ BK365
    go_wp2_with (first | (go_at_call 169; (with_reducible refine (spec_l01Power.calls kj2 a0 (wrap64 (a1_0 + a1_2)) t369 _ A17.out).mono ?_); rintro e w' ⟨rfl, ⟨nd, rfl⟩⟩; (try exact dd_)) | (go_at_call 109; (with_reducible refine (spec_l01In.calls a1_1 0 (wrap64 (t369 - 1)) true _ A18.out).mono ?_); rintro e w' ⟨rfl, ⟨nd, rfl⟩⟩; (try exact dd_)))
    repeat (go_quiet (first | (go_at_call 169; (with_reducible refine (spec_l01Power.calls kj2 a0 (wrap64 (a1_0 + a1_2)) t369 _ A17.out).mono ?_); rintro e w' ⟨rfl, ⟨nd, rfl⟩⟩; (try exact dd_)) | (go_at_call 109; (with_reducible refine (spec_l01In.calls a1_1 0 (wrap64 (t369 - 1)) true _ A18.out).mono ?_); rintro e w' ⟨rfl, ⟨nd, rfl⟩⟩; (try exact dd_))); try go_wp2_with (first | (go_at_call 169; (with_reducible refine (spec_l01Power.calls kj2 a0 (wrap64 (a1_0 + a1_2)) t369 _ A17.out).mono ?_); rintro e w' ⟨rfl, ⟨nd, rfl⟩⟩; (try exact dd_)) | (go_at_call 109; (with_reducible refine (spec_l01In.calls a1_1 0 (wrap64 (t369 - 1)) true _ A18.out).mono ?_); rintro e w' ⟨rfl, ⟨nd, rfl⟩⟩; (try exact dd_))))
    go_ret
    exact ⟨es_, (bw_ HB).out⟩
   replace H := ief_ H
   obtain ⟨c22, c22b0, c22b1, H⟩ := H
   obtain rfl := si_ H
   obtain ⟨hcz23_0, hcz23_1, hcz23_2, hfz23_0, hfz23_1, hfz23_2⟩ := ch3_ BK365
   go_wp2_with (first | (go_at_call 169; (with_reducible refine (spec_l01Power.calls kj2 a0 (wrap64 (a1_0 + a1_2)) t369 _ A17.out).mono ?_); rintro e w' ⟨rfl, ⟨nd, rfl⟩⟩; (try exact dd_)) | (go_at_call 109; (with_reducible refine (spec_l01In.calls a1_1 0 (wrap64 (t369 - 1)) true _ A18.out).mono ?_); rintro e w' ⟨rfl, ⟨nd, rfl⟩⟩; (try exact dd_)))
   repeat (go_quiet (first | (go_at_call 169; (with_reducible refine (spec_l01Power.calls kj2 a0 (wrap64 (a1_0 + a1_2)) t369 _ A17.out).mono ?_); rintro e w' ⟨rfl, ⟨nd, rfl⟩⟩; (try exact dd_)) | (go_at_call 109; (with_reducible refine (spec_l01In.calls a1_1 0 (wrap64 (t369 - 1)) true _ A18.out).mono ?_); rintro e w' ⟨rfl, ⟨nd, rfl⟩⟩; (try exact dd_))); try go_wp2_with (first | (go_at_call 169; (with_reducible refine (spec_l01Power.calls kj2 a0 (wrap64 (a1_0 + a1_2)) t369 _ A17.out).mono ?_); rintro e w' ⟨rfl, ⟨nd, rfl⟩⟩; (try exact dd_)) | (go_at_call 109; (with_reducible refine (spec_l01In.calls a1_1 0 (wrap64 (t369 - 1)) true _ A18.out).mono ?_); rintro e w' ⟨rfl, ⟨nd, rfl⟩⟩; (try exact dd_))))
   go_ret
   exact ⟨es_, (bw_ HB).out⟩
  obtain rfl := si_ H
  obtain ⟨hcz24_0, hcz24_1, hcz24_2, hfz24_0, hfz24_1, hfz24_2⟩ := ch3_ BK365
  go_wp2_with (first | (go_at_call 169; (with_reducible refine (spec_l01Power.calls kj2 a0 (wrap64 (a1_0 + a1_2)) t369 _ A17.out).mono ?_); rintro e w' ⟨rfl, ⟨nd, rfl⟩⟩; (try exact dd_)) | (go_at_call 109; (with_reducible refine (spec_l01In.calls a1_1 0 (wrap64 (t369 - 1)) false _ A18.out).mono ?_); rintro e w' ⟨rfl, ⟨nd, rfl⟩⟩; (try exact dd_)))
  repeat (go_quiet (first | (go_at_call 169; (with_reducible refine (spec_l01Power.calls kj2 a0 (wrap64 (a1_0 + a1_2)) t369 _ A17.out).mono ?_); rintro e w' ⟨rfl, ⟨nd, rfl⟩⟩; (try exact dd_)) | (go_at_call 109; (with_reducible refine (spec_l01In.calls a1_1 0 (wrap64 (t369 - 1)) false _ A18.out).mono ?_); rintro e w' ⟨rfl, ⟨nd, rfl⟩⟩; (try exact dd_))); try go_wp2_with (first | (go_at_call 169; (with_reducible refine (spec_l01Power.calls kj2 a0 (wrap64 (a1_0 + a1_2)) t369 _ A17.out).mono ?_); rintro e w' ⟨rfl, ⟨nd, rfl⟩⟩; (try exact dd_)) | (go_at_call 109; (with_reducible refine (spec_l01In.calls a1_1 0 (wrap64 (t369 - 1)) false _ A18.out).mono ?_); rintro e w' ⟨rfl, ⟨nd, rfl⟩⟩; (try exact dd_))))
  go_ret
  exact ⟨es_, (bw_ HB).out⟩
/-! ### spec_l01Code: function 88 -/
def spec_l01Code.l0 : Nat → Int → List (S25) → Int → Option (Int)
 | 0, _, _, _ => none
 | k + 1, x0, x1, x5 => if x5 < (x1.length : Int) then (if 0 ≤ x5 then ((spec_l01Is.f k x0 ((rd_T25 x1 x5).f0) ((rd_T25 x1 x5).f1) ((rd_T25 x1 x5).f2)).bind fun t373 => (if t373 = true then (spec_l01Code.l0 k x0 x1 (wrap64 (x5 + 1))) else (some 1))) else (none)) else (some 0)
def spec_l01Code.f (k : Nat) (a0 : Int) (l1 : List (S25)) : Option (Int) := (spec_l01Prime.f a0).bind fun t371 => (if t371 = true then (spec_l01Code.l0 k a0 l1 0) else (some 1))
theorem spec_l01Code.calls (k : Nat) (a0 : Int) (A1 : Option Addr) (c1 : Nat) (l1 : List (S25)) (r : Int) (w : World) (hr1 : Kd.C k25 w A1 l1.length l1) (hc1 : l1.length ≤ c1) (h : spec_l01Code.f k a0 l1 = some r) :
  Calls Try.prog 88 #[.int .i64 a0, .slice A1 l1.length c1] w fun e w' => e = .returned (.int .i64 r) ∧ Below w.heap.size w w' := by
 have hu25 := Try.underlying25
 have HR1 := Aside0.mk hr1
 have HC1 := Aside0.mk hc1
 clear hr1 hc1
 have HB := Aside0.mk (Below.refl w.heap.size w)
 unfold spec_l01Code.f at h
 have H := h
 clear h
 replace H := oc_ H
 obtain ⟨t371, A3, H⟩ := H
 replace H := ib_ H
 rcases H with ⟨rfl, H⟩ | ⟨rfl, H⟩
 ·have H' := Aside0.mk H
  clear H
  go_enter Try.func88, Try.ntmps88
  go_wp2_with (first | ((refine gc_ 121 ?_); refine ge_ 7 Try.func121 #[.int .i64 a0] ?_; (with_reducible refine (spec_l01Prime.calls a0 true _ A3.out).mono ?_); rintro e w' ⟨rfl, ⟨nd, rfl⟩⟩; refine ⟨_, rfl, ?_⟩))
  go_loopg [5] k (fun kq v5 w' => ∃ (x5_1 : Int), v5 = .int .i64 x5_1 ∧ Aside0 (spec_l01Code.l0 kq a0 l1 x5_1 = some r) ∧ Aside0 (kq ≤ k) ∧ Aside0 (Below w.heap.size w w'))
  case atStart => exact ⟨(0), en_, H', ⟨Nat.le_refl _⟩, bw_ HB⟩
  clear H'
  try clear c1
  obtain ⟨x5_1, rfl, HA, HK1, HB⟩ := hrel
  cases gk with
  | zero => exact absurd HA.out (by simp [spec_l01Code.l0])
  | succ k1 =>
   have H := HA.out
   clear HA
   simp only [spec_l01Code.l0] at H
   replace H := il_ H
   rcases H with ⟨c5b0, H⟩ | ⟨c5b0, H⟩
   ·replace H := imn_ H
    obtain ⟨c6b0, H⟩ := H
    replace H := oc_ H
    obtain ⟨t373, A7, H⟩ := H
    replace H := ib_ H
    rcases H with ⟨rfl, H⟩ | ⟨rfl, H⟩
    ·have H' := Aside0.mk H
     clear H
     have p372 : 0 ≤ (x5_1 : Int) := od_
     have q372 : x5_1 < (l1.length : Int) := od_
     obtain ⟨ad372, e372, hx372_0, hx372_1, hx372_2⟩ := at_T25 HR1.out x5_1 p372 q372
     cases e372
     replace hx372_0 := clTr HB.out hx372_0
     replace hx372_1 := clTr HB.out hx372_1
     replace hx372_2 := clTr HB.out hx372_2
     replace p372 := eq_true p372
     replace q372 := eq_true q372
     go_wp2_with (first | ((refine gc_ 123 ?_); refine ge_ 20 Try.func123 #[.int .i64 a0, .agg #[.int .i64 ((rd_T25 l1 x5_1).f0), .int .i64 ((rd_T25 l1 x5_1).f1), .int .i64 ((rd_T25 l1 x5_1).f2)]] ?_; (with_reducible refine (spec_l01Is.calls k1 a0 ((rd_T25 l1 x5_1).f0) ((rd_T25 l1 x5_1).f1) ((rd_T25 l1 x5_1).f2) true _ A7.out).mono ?_); rintro e w9 ⟨rfl, hb⟩; refine ⟨_, rfl, ?_⟩; replace HB := bt_ HB hb; (try clear hb)))
     go_roundg k1
     case measure => have := HK1.out; omega
     case rel => exact ⟨(wrap64 (x5_1 + 1)), en_, H', ⟨by have := HK1.out; omega⟩, bw_ HB⟩
    obtain rfl := si_ H
    have p372 : 0 ≤ (x5_1 : Int) := od_
    have q372 : x5_1 < (l1.length : Int) := od_
    obtain ⟨ad372, e372, hx372_0, hx372_1, hx372_2⟩ := at_T25 HR1.out x5_1 p372 q372
    cases e372
    replace hx372_0 := clTr HB.out hx372_0
    replace hx372_1 := clTr HB.out hx372_1
    replace hx372_2 := clTr HB.out hx372_2
    replace p372 := eq_true p372
    replace q372 := eq_true q372
    go_wp2_with (first | ((refine gc_ 123 ?_); refine ge_ 20 Try.func123 #[.int .i64 a0, .agg #[.int .i64 ((rd_T25 l1 x5_1).f0), .int .i64 ((rd_T25 l1 x5_1).f1), .int .i64 ((rd_T25 l1 x5_1).f2)]] ?_; (with_reducible refine (spec_l01Is.calls k1 a0 ((rd_T25 l1 x5_1).f0) ((rd_T25 l1 x5_1).f1) ((rd_T25 l1 x5_1).f2) false _ A7.out).mono ?_); rintro e w10 ⟨rfl, hb⟩; refine ⟨_, rfl, ?_⟩; replace HB := bt_ HB hb; (try clear hb)))
    go_ret
    exact ⟨es_, (bw_ HB).out⟩
   obtain rfl := si_ H
   go_wp2
   go_ret
   exact ⟨es_, (bw_ HB).out⟩
 obtain rfl := si_ H
 go_enter Try.func88, Try.ntmps88
 go_wp2_with (first | ((refine gc_ 121 ?_); refine ge_ 7 Try.func121 #[.int .i64 a0] ?_; (with_reducible refine (spec_l01Prime.calls a0 false _ A3.out).mono ?_); rintro e w' ⟨rfl, ⟨nd, rfl⟩⟩; refine ⟨_, rfl, ?_⟩))
 go_ret
 exact ⟨es_, (bw_ HB).out⟩
/-! ### spec_l07Parent: function 127 -/
def spec_l07Parent.f (a0 a1 : Int) : Option (Int) := if a1 ≤ (wrap64 (a0 + 1)) then (some 0) else (if a0 = 0 then (none) else (some (wrap64 ((wrap64 (Int.tdiv (wrap64 ((wrap64 (a1 - a0)) - 2)) a0)) + 1))))
theorem spec_l07Parent.calls (a0 a1 r : Int) (w : World) (h : spec_l07Parent.f a0 a1 = some r) :
  Calls Try.prog 127 #[.int .i64 a0, .int .i64 a1] w fun e w' => e = .returned (.int .i64 r) ∧ Drawn0 w w' := by
 unfold spec_l07Parent.f at h
 have H := h
 clear h
 replace H := im_ H
 rcases H with ⟨c3b0, H⟩ | ⟨c3b0, H⟩
 ·obtain rfl := si_ H
  go_enter Try.func127, Try.ntmps127
  go_wp2
  go_ret
  exact ⟨en_, de_⟩
 replace H := ief_ H
 obtain ⟨c4, c4b0, c4b1, H⟩ := H
 obtain rfl := si_ H
 go_enter Try.func127, Try.ntmps127
 go_wp2
 go_ret
 exact ⟨en_, de_⟩
/-! ### spec_l07Depth: function 113 -/
def spec_l07Depth.l0 : Nat → Int → Int → Int → Option (Int)
 | 0, _, _, _ => none
 | k + 1, x0, x1, x5 => if x1 > 0 then ((spec_l07Parent.f x0 x1).bind fun t374 => (spec_l07Depth.l0 k x0 t374 (wrap64 (x5 + 1)))) else (some x5)
def spec_l07Depth.f (k : Nat) (a0 a1 : Int) : Option (Int) := spec_l07Depth.l0 k a0 a1 0
theorem spec_l07Depth.calls (k : Nat) (a0 a1 r : Int) (w : World) (h : spec_l07Depth.f k a0 a1 = some r) :
  Calls Try.prog 113 #[.int .i64 a0, .int .i64 a1] w fun e w' => e = .returned (.int .i64 r) ∧ Drawn0 w w' := by
 unfold spec_l07Depth.f at h
 have H := h
 clear h
 have H' := Aside0.mk H
 clear H
 go_enter Try.func113, Try.ntmps113
 go_wp2
 go_loopg [1, 5] k (fun kq v1 v5 w' => ∃ (x1_1 : Int) (x5_1 : Int), v1 = .int .i64 x1_1 ∧ v5 = .int .i64 x5_1 ∧ Aside0 (spec_l07Depth.l0 kq a0 x1_1 x5_1 = some r) ∧ Aside0 (kq ≤ k) ∧ Drawn0 w w')
 case atStart => exact ⟨(a1), (0), en_, en_, H', ⟨Nat.le_refl _⟩, de_⟩
 clear H'
 obtain ⟨x1_1, x5_1, rfl, rfl, HA, HK1, ⟨m1, rfl⟩⟩ := hrel
 cases gk with
 | zero => exact absurd HA.out (by simp [spec_l07Depth.l0])
 | succ k1 =>
  have H := HA.out
  clear HA
  simp only [spec_l07Depth.l0] at H
  replace H := ig_ H
  rcases H with ⟨c3b0, H⟩ | ⟨c3b0, H⟩
  ·replace H := oc_ H
   obtain ⟨t374, A4, H⟩ := H
   have H' := Aside0.mk H
   clear H
   go_wp2_with (first | ((refine gc_ 127 ?_); refine ge_ 10 Try.func127 #[.int .i64 a0, .int .i64 x1_1] ?_; (with_reducible refine (spec_l07Parent.calls a0 x1_1 t374 _ A4.out).mono ?_); rintro e w' ⟨rfl, ⟨nd, rfl⟩⟩; refine ⟨_, rfl, ?_⟩))
   go_roundg k1
   case measure => have := HK1.out; omega
   case rel => exact ⟨(t374), (wrap64 (x5_1 + 1)), en_, en_, H', ⟨by have := HK1.out; omega⟩, de_⟩
  obtain rfl := si_ H
  go_wp2
  go_ret
  exact ⟨en_, de_⟩
end Go.Proofs.Ytgoeelhiffbjlaa.QP
