import Derived.Test.YtgoeelhiffbjlaaQBx52
namespace Go.Proofs.Ytgoeelhiffbjlaa.QB
set_option maxHeartbeats 8000000
set_option maxRecDepth 100000
open Go.RowKit YtgoeelhiffbjlaaW.PrintWords YtgoeelhiffbjlaaW.PrintLast YtgoeelhiffbjlaaW.PrintMore
attribute [local go_sem] isSome_setCell max2_int min2_int max_two min_two max_three min_three max_four min_four
set_option linter.unusedVariables false
set_option linter.unusedSimpArgs false
def impl_areSides.l0 : Nat → Int → List (S150) → Int → Int → Option (Bool)
 | 0, _, _, _, _ => none
 | k + 1, x0, x7, x8, x9 => if x9 < x8 then (if 0 ≤ x9 then (if x9 < (x7.length : Int) then ((impl_IsBall.f k x0 ((rd_T150 x7 x9).f0.f0) ((rd_T150 x7 x9).f0.f1) ((rd_T150 x7 x9).f0.f2)).bind fun t341 => (if t341 = true then (impl_areSides.l0 k x0 x7 x8 (wrap64 (x9 + 1))) else (some false))) else (none)) else (none)) else ((impl_isPrime.f x0).bind fun t342 => (some t342))
def impl_areSides.f (k : Nat) (a0 : Int) (l1 : List (S150)) : Option (Bool) := impl_areSides.l0 k a0 l1 (l1.length : Int) 0
theorem impl_areSides.calls (k : Nat) (a0 : Int) (A1 : Option Addr) (c1 : Nat) (l1 : List (S150)) (r : Bool) (w : World) (hr1 : Kd.C k150 w A1 l1.length l1) (hc1 : l1.length ≤ c1) (h : impl_areSides.f k a0 l1 = some r) :
  Calls Try.prog 178 #[.int .i64 a0, .slice A1 l1.length c1] w fun e w' => e = .returned (.bool r) ∧ Below w.heap.size w w' := by
 have hu150 := Try.underlying150
 have hu25 := Try.underlying25
 have HR1 := Aside0.mk hr1
 have HC1 := Aside0.mk hc1
 clear hr1 hc1
 have HB := Aside0.mk (Below.refl w.heap.size w)
 unfold impl_areSides.f at h
 have H := h
 clear h
 have H' := Aside0.mk H
 clear H
 go_enter Try.func178, Try.ntmps178
 go_wp2
 go_loopg [9] k (fun kq v9 w' => ∃ (x9_1 : Int), v9 = .int .i64 x9_1 ∧ Aside0 (impl_areSides.l0 kq a0 l1 (l1.length : Int) x9_1 = some r) ∧ Aside0 (kq ≤ k) ∧ Aside0 (Below w.heap.size w w'))
 case atStart => exact ⟨(0), en_, H', ⟨Nat.le_refl _⟩, bw_ HB⟩
 clear H'
 try clear c1
 obtain ⟨x9_1, rfl, HA, HK1, HB⟩ := hrel
 cases gk with
 | zero => exact absurd HA.out (by simp [impl_areSides.l0])
 | succ k1 =>
  have H := HA.out
  clear HA
  simp only [impl_areSides.l0] at H
  replace H := il_ H
  rcases H with ⟨c3b0, H⟩ | ⟨c3b0, H⟩
  ·replace H := imn_ H
   obtain ⟨c4b0, H⟩ := H
   replace H := iln_ H
   obtain ⟨c5b0, H⟩ := H
   replace H := oc_ H
   obtain ⟨t341, A6, H⟩ := H
   replace H := ib_ H
   rcases H with ⟨rfl, H⟩ | ⟨rfl, H⟩
   ·have H' := Aside0.mk H
    clear H
    have p339 : 0 ≤ (x9_1 : Int) := od_
    have q339 : x9_1 < (l1.length : Int) := od_
    obtain ⟨ad339, e339, hx339_0, hx339_1, hx339_2, hx339_3⟩ := at_T150 HR1.out x9_1 p339 q339
    cases e339
    replace hx339_0 := clTr HB.out hx339_0
    replace hx339_1 := clTr HB.out hx339_1
    replace hx339_2 := clTr HB.out hx339_2
    replace hx339_3 := clTr HB.out hx339_3
    replace p339 := eq_true p339
    replace q339 := eq_true q339
    go_wp2_with (first | ((refine gd_ 6 ?_); refine by_ 6 #[.int .i64 0, .int .i64 0, .int .i64 0, .bool false] 150 HB ?_; intro gb340 hg w8 BK340 hb GW340 HB_; replace HB := HB_; clear hb hg; obtain ⟨hcz9_0, hcz9_1, hcz9_2, hcz9_3, hfz9_0, hfz9_1, hfz9_2, hfz9_3⟩ := ch4_ BK340) | ((refine gc_ 94 ?_); refine ge_ 16 Try.func94 #[.int .i64 a0, .agg #[.int .i64 ((rd_T150 l1 x9_1).f0.f0), .int .i64 ((rd_T150 l1 x9_1).f0.f1), .int .i64 ((rd_T150 l1 x9_1).f0.f2)]] ?_; (with_reducible refine (impl_IsBall.calls k1 a0 ((rd_T150 l1 x9_1).f0.f0) ((rd_T150 l1 x9_1).f0.f1) ((rd_T150 l1 x9_1).f0.f2) true _ A6.out).mono ?_); rintro e w10 ⟨rfl, hb⟩; refine ⟨_, rfl, ?_⟩; replace BK340 := Aside0.mk (blk_below (g := gb340) (o := .cells #[.int .i64 ((rd_T150 l1 x9_1).f0.f0), .int .i64 ((rd_T150 l1 x9_1).f0.f1), .int .i64 ((rd_T150 l1 x9_1).f0.f2), .bool ((rd_T150 l1 x9_1).f1)] 150 (0, 0)) (bp_ BK340).out hb); replace HB := bt_ HB hb; (try clear hb)))
    go_roundg k1
    case measure => have := HK1.out; omega
    case rel => exact ⟨(wrap64 (x9_1 + 1)), en_, H', ⟨by have := HK1.out; omega⟩, bw_ HB⟩
   obtain rfl := si_ H
   have p339 : 0 ≤ (x9_1 : Int) := od_
   have q339 : x9_1 < (l1.length : Int) := od_
   obtain ⟨ad339, e339, hx339_0, hx339_1, hx339_2, hx339_3⟩ := at_T150 HR1.out x9_1 p339 q339
   cases e339
   replace hx339_0 := clTr HB.out hx339_0
   replace hx339_1 := clTr HB.out hx339_1
   replace hx339_2 := clTr HB.out hx339_2
   replace hx339_3 := clTr HB.out hx339_3
   replace p339 := eq_true p339
   replace q339 := eq_true q339
   go_wp2_with (first | ((refine gd_ 6 ?_); refine by_ 6 #[.int .i64 0, .int .i64 0, .int .i64 0, .bool false] 150 HB ?_; intro gb340 hg w11 BK340 hb GW340 HB_; replace HB := HB_; clear hb hg; obtain ⟨hcz12_0, hcz12_1, hcz12_2, hcz12_3, hfz12_0, hfz12_1, hfz12_2, hfz12_3⟩ := ch4_ BK340) | ((refine gc_ 94 ?_); refine ge_ 16 Try.func94 #[.int .i64 a0, .agg #[.int .i64 ((rd_T150 l1 x9_1).f0.f0), .int .i64 ((rd_T150 l1 x9_1).f0.f1), .int .i64 ((rd_T150 l1 x9_1).f0.f2)]] ?_; (with_reducible refine (impl_IsBall.calls k1 a0 ((rd_T150 l1 x9_1).f0.f0) ((rd_T150 l1 x9_1).f0.f1) ((rd_T150 l1 x9_1).f0.f2) false _ A6.out).mono ?_); rintro e w13 ⟨rfl, hb⟩; refine ⟨_, rfl, ?_⟩; replace BK340 := Aside0.mk (blk_below (g := gb340) (o := .cells #[.int .i64 ((rd_T150 l1 x9_1).f0.f0), .int .i64 ((rd_T150 l1 x9_1).f0.f1), .int .i64 ((rd_T150 l1 x9_1).f0.f2), .bool ((rd_T150 l1 x9_1).f1)] 150 (0, 0)) (bp_ BK340).out hb); replace HB := bt_ HB hb; (try clear hb)))
   go_ret
   exact ⟨es_, (bw_ HB).out⟩
  replace H := oc_ H
  obtain ⟨t342, A14, H⟩ := H
  obtain rfl := si_ H
  go_wp2_with (first | ((refine gc_ 118 ?_); refine ge_ 20 Try.func118 #[.int .i64 a0] ?_; (with_reducible refine (impl_isPrime.calls a0 t342 _ A14.out).mono ?_); rintro e w' ⟨rfl, ⟨nd, rfl⟩⟩; refine ⟨_, rfl, ?_⟩))
  go_ret
  exact ⟨es_, (bw_ HB).out⟩
def impl_mark.f (k : Nat) (a0 a1_0 a1_1 a1_2 : Int) : Option (Int) := (impl_power.f k a0 (wrap64 (6 - a1_2))).bind fun t344 => (some (wrap64 (a1_1 * t344)))
theorem impl_mark.calls (k : Nat) (a0 a1_0 a1_1 a1_2 r : Int) (w : World) (h : impl_mark.f k a0 a1_0 a1_1 a1_2 = some r) :
  Calls Try.prog 163 #[.int .i64 a0, .agg #[.int .i64 a1_0, .int .i64 a1_1, .int .i64 a1_2]] w fun e w' => e = .returned (.int .i64 r) ∧ Below w.heap.size w w' := by
 have hu25 := Try.underlying25
 have HB := Aside0.mk (Below.refl w.heap.size w)
 unfold impl_mark.f at h
 have H := h
 clear h
 replace H := oc_ H
 obtain ⟨t344, A3, H⟩ := H
 obtain rfl := si_ H
 go_enter Try.func163, Try.ntmps163
 go_wp2_with (first | ((refine gd_ 3 ?_); refine by_ 3 #[.int .i64 a1_0, .int .i64 a1_1, .int .i64 a1_2] 25 HB ?_; intro gb343 hg w4 BK343 hb GW343 HB_; replace HB := HB_; clear hb hg; obtain ⟨hcz5_0, hcz5_1, hcz5_2, hfz5_0, hfz5_1, hfz5_2⟩ := ch3_ BK343) | (go_at_call 162; (with_reducible refine (impl_power.calls k a0 (wrap64 (6 - a1_2)) t344 _ A3.out).mono ?_); rintro e w' ⟨rfl, ⟨nd, rfl⟩⟩; (try exact dd_)))
 repeat (go_quiet (first | ((refine gd_ 3 ?_); refine by_ 3 #[.int .i64 a1_0, .int .i64 a1_1, .int .i64 a1_2] 25 HB ?_; intro gb343 hg w4 BK343 hb GW343 HB_; replace HB := HB_; clear hb hg; obtain ⟨hcz5_0, hcz5_1, hcz5_2, hfz5_0, hfz5_1, hfz5_2⟩ := ch3_ BK343) | (go_at_call 162; (with_reducible refine (impl_power.calls k a0 (wrap64 (6 - a1_2)) t344 _ A3.out).mono ?_); rintro e w' ⟨rfl, ⟨nd, rfl⟩⟩; (try exact dd_))); try go_wp2_with (first | ((refine gd_ 3 ?_); refine by_ 3 #[.int .i64 a1_0, .int .i64 a1_1, .int .i64 a1_2] 25 HB ?_; intro gb343 hg w4 BK343 hb GW343 HB_; replace HB := HB_; clear hb hg; obtain ⟨hcz5_0, hcz5_1, hcz5_2, hfz5_0, hfz5_1, hfz5_2⟩ := ch3_ BK343) | (go_at_call 162; (with_reducible refine (impl_power.calls k a0 (wrap64 (6 - a1_2)) t344 _ A3.out).mono ?_); rintro e w' ⟨rfl, ⟨nd, rfl⟩⟩; (try exact dd_))))
 go_ret
 exact ⟨es_, (bw_ HB).out⟩
def impl_holds.f (k : Nat) (a0 a1_0 a1_1 a1_2 a2_0 a2_1 a2_2 : Int) : Option (Bool) := if a1_0 ≤ a2_0 then ((impl_mark.f k a0 a2_0 a2_1 a2_2).bind fun t347 => ((impl_mark.f k a0 a1_0 a1_1 a1_2).bind fun t348 => ((impl_power.f k a0 (wrap64 (a1_0 + 6))).bind fun t349 => (if t349 = 0 then (none) else (some ((Int.tmod (wrap64 (t347 - t348)) t349) == 0)))))) else (some false)
def impl_holds.T1 : Bool × List (List Nat × List Nat) := (true, [([], []), ([0], [0]), ([], []), ([2], [2]), ([1, 3], [1, 3]), ([4], [4]), ([5], [5]), ([5], [5]), ([6, 7, 5, 5], [5, 6, 7]), ([5], [5]), ([5], [5]), ([9, 10, 8, 5], [5, 9, 10]), ([8, 11, 5], [5, 8, 11]), ([5], [5]), ([5], [5]), ([14, 5], [5, 14]), ([15, 5], [5, 15]), ([13, 16, 11, 5], [5, 13, 16]), ([12, 17, 5], [5, 12, 17]), ([18, 5], [5, 18]), ([5, 19], [5, 19]), ([20, 17, 0, 1, 2, 3, 4, 5, 6, 7, 8, 9, 10, 11, 12, 13, 14, 15, 16, 17, 18, 19, 20], [20])])
def impl_holds.B1 : List Nat := [0, 1, 0, 4, 15, 31, 63, 63, 255, 63, 63, 2047, 4095, 63, 63, 16447, 49215, 126975, 262143, 524287, 1048575, 2097151]
theorem impl_holds.tab1 : rtab .any (opsOf Try.f206 1) = impl_holds.T1 := by kernel_rfl
theorem impl_holds.bits1 : waitsOk impl_holds.T1.2 impl_holds.B1 = true := by kernel_rfl
theorem impl_holds.calls (k : Nat) (a0 a1_0 a1_1 a1_2 a2_0 a2_1 a2_2 : Int) (r : Bool) (w : World) (h : impl_holds.f k a0 a1_0 a1_1 a1_2 a2_0 a2_1 a2_2 = some r) :
  Calls Try.prog 206 #[.int .i64 a0, .agg #[.int .i64 a1_0, .int .i64 a1_1, .int .i64 a1_2], .agg #[.int .i64 a2_0, .int .i64 a2_1, .int .i64 a2_2]] w fun e w' => e = .returned (.bool r) ∧ Below w.heap.size w w' := by
 have hu25 := Try.underlying25
 have HB := Aside0.mk (Below.refl w.heap.size w)
 unfold impl_holds.f at h
 have H := h
 clear h
 replace H := im_ H
 rcases H with ⟨c4b0, H⟩ | ⟨c4b0, H⟩
 ·replace H := oc_ H
  obtain ⟨t347, A5, H⟩ := H
  replace H := oc_ H
  obtain ⟨t348, A6, H⟩ := H
  replace H := oc_ H
  obtain ⟨t349, A7, H⟩ := H
  replace H := ief_ H
  obtain ⟨c8, c8b0, c8b1, H⟩ := H
  obtain rfl := si_ H
  go_enter Try.func206, Try.ntmps206
  try go_wp2_with (first | ((refine gd_ 4 ?_); refine by_ 4 #[.int .i64 a1_0, .int .i64 a1_1, .int .i64 a1_2] 25 HB ?_; intro gb345 hg w9 BK345 hb GW345 HB_; replace HB := HB_; clear hb hg) | ((refine gd_ 5 ?_); refine by_ 5 #[.int .i64 a2_0, .int .i64 a2_1, .int .i64 a2_2] 25 HB ?_; intro gb346 hg w10 BK346 hb GW346 HB_; have NB345_346 := bm_ BK345 hg; have NB346_345 := bn_ BK345 hg; replace BK345 := bb_ BK345 hb; replace HB := HB_; clear hb hg))
  replace BK345 := bd_ BK345
  replace BK346 := bd_ BK346
  replace HB := be_ HB
  refine start_ (n := 22) (S := fun w' => w'.cell? ⟨gb345, 0, none⟩ = some (.int .i64 a1_0) ∧ w'.cell? ⟨gb345, 1, none⟩ = some (.int .i64 a1_1) ∧ w'.cell? ⟨gb345, 2, none⟩ = some (.int .i64 a1_2) ∧ w'.cell? ⟨gb346, 0, none⟩ = some (.int .i64 a2_0) ∧ w'.cell? ⟨gb346, 1, none⟩ = some (.int .i64 a2_1) ∧ w'.cell? ⟨gb346, 2, none⟩ = some (.int .i64 a2_2)) (ds := []) (bv_ 22 0) (by kernel_rfl) rfl rfl ⟨cz_ BK345 0, cz_ BK345 1, cz_ BK345 2, cz_ BK346 0, cz_ BK346 1, cz_ BK346 2⟩ (fun hHeld => ?_); refine with_tabW impl_holds.tab1 impl_holds.bits1 (fun HT_ HW_ => ?_)
  generalize w10.drew = w11 at BK345 BK346 HB hHeld ⊢
  refine px_ HT_ 0 7 1 ?_
  refine px_ HT_ 2 9 5 ?_
  refine ta_ HT_ HW_ 1 (some 8) (bv_ 22 7) hHeld ?_ (hy := by rintro w' ⟨s0, s1, s2, s3, s4, s5⟩; go_simp; with_reducible rfl)
  refine ta_ HT_ HW_ 3 (some 10) (bv_ 22 15) hHeld ?_ (hy := by rintro w' ⟨s0, s1, s2, s3, s4, s5⟩; go_simp; with_reducible rfl)
  refine px_ HT_ 4 11 31 ?_
  refine px_ HT_ 5 12 63 ?_
  refine px_ HT_ 6 13 127 ?_
  refine px_ HT_ 9 16 639 ?_
  refine px_ HT_ 13 20 8831 ?_
  refine px_ HT_ 14 21 25215 ?_
  refine ta_ HT_ HW_ 7 (some 14) (bv_ 22 25343) hHeld ?_ (hy := by rintro w' ⟨s0, s1, s2, s3, s4, s5⟩; go_simp; with_reducible rfl)
  refine ta_ HT_ HW_ 10 (some 17) (bv_ 22 26367) hHeld ?_ (hy := by rintro w' ⟨s0, s1, s2, s3, s4, s5⟩; go_simp; with_reducible rfl)
  refine ta_ HT_ HW_ 15 (some 22) (bv_ 22 59135) hHeld ?_ (hy := by rintro w' ⟨s0, s1, s2, s3, s4, s5⟩; go_simp; with_reducible rfl)
  refine px_ HT_ 16 23 124671 ?_
  refine on_ HT_ 8 (some 15) (bv_ 22 124927) (fun K hK => ?_)
  refine gs_ Try.func163 #[.int .i64 a0, .agg #[.int .i64 a2_0, .int .i64 a2_1, .int .i64 a2_2]] ?_
  with_reducible refine (impl_mark.calls k a0 a2_0 a2_1 a2_2 t347 _ A5.out).mono ?_
  rintro e w12 ⟨rfl, hb⟩
  refine ⟨_, rfl, ?_⟩
  replace BK345 := bb_ BK345 hb
  replace BK346 := bb_ BK346 hb
  replace HB := bt_ HB hb
  try clear hb
  refine hK.out _ _ ⟨cz_ BK345 0, cz_ BK345 1, cz_ BK345 2, cz_ BK346 0, cz_ BK346 1, cz_ BK346 2⟩ (fun hHeld => ?_)
  clear hK K
  refine nm_ (some 15) ?_
  refine on_ HT_ 11 (some 18) (bv_ 22 126975) (fun K hK => ?_)
  refine gs_ Try.func163 #[.int .i64 a0, .agg #[.int .i64 a1_0, .int .i64 a1_1, .int .i64 a1_2]] ?_
  with_reducible refine (impl_mark.calls k a0 a1_0 a1_1 a1_2 t348 _ A6.out).mono ?_
  rintro e w13 ⟨rfl, hb⟩
  refine ⟨_, rfl, ?_⟩
  replace BK345 := bb_ BK345 hb
  replace BK346 := bb_ BK346 hb
  replace HB := bt_ HB hb
  try clear hb
  refine hK.out _ _ ⟨cz_ BK345 0, cz_ BK345 1, cz_ BK345 2, cz_ BK346 0, cz_ BK346 1, cz_ BK346 2⟩ (fun hHeld => ?_)
  clear hK K
  refine nm_ (some 18) ?_
  refine px_ HT_ 12 19 131071 ?_
  refine on_ HT_ 17 (some 24) (bv_ 22 262143) (fun K hK => ?_)
  refine gs_ Try.func162 #[.int .i64 a0, .int .i64 (wrap64 (a1_0 + 6))] ?_
  with_reducible refine (impl_power.calls k a0 (wrap64 (a1_0 + 6)) t349 _ A7.out).mono ?_
  rintro e w' ⟨rfl, ⟨nd, rfl⟩⟩
  refine ⟨_, rfl, ?_⟩
  refine hK.out _ _ ⟨cz_ BK345 0, cz_ BK345 1, cz_ BK345 2, cz_ BK346 0, cz_ BK346 1, cz_ BK346 2⟩ (fun hHeld => ?_)
  clear hK K
  refine nm_ (some 24) ?_
  refine px_ HT_ 18 25 524287 ?_
  refine px_ HT_ 19 26 1048575 ?_
  refine px_ HT_ 20 27 2097151 ?_
  refine px_ HT_ 21 6 4194303 ?_
  refine done_ (done_of HT_.out (by kernel_rfl)) ?_
  try go_wp2
  go_ret
  exact ⟨es_, (bw_ HB).out⟩
 obtain rfl := si_ H
 go_enter Try.func206, Try.ntmps206
 try go_wp2_with (first | ((refine gd_ 4 ?_); refine by_ 4 #[.int .i64 a1_0, .int .i64 a1_1, .int .i64 a1_2] 25 HB ?_; intro gb345 hg w14 BK345 hb GW345 HB_; replace HB := HB_; clear hb hg) | ((refine gd_ 5 ?_); refine by_ 5 #[.int .i64 a2_0, .int .i64 a2_1, .int .i64 a2_2] 25 HB ?_; intro gb346 hg w15 BK346 hb GW346 HB_; have NB345_346 := bm_ BK345 hg; have NB346_345 := bn_ BK345 hg; replace BK345 := bb_ BK345 hb; replace HB := HB_; clear hb hg))
 replace BK345 := bd_ BK345
 replace BK346 := bd_ BK346
 replace HB := be_ HB
 refine start_ (n := 22) (S := fun w' => w'.cell? ⟨gb345, 0, none⟩ = some (.int .i64 a1_0) ∧ w'.cell? ⟨gb345, 1, none⟩ = some (.int .i64 a1_1) ∧ w'.cell? ⟨gb345, 2, none⟩ = some (.int .i64 a1_2) ∧ w'.cell? ⟨gb346, 0, none⟩ = some (.int .i64 a2_0) ∧ w'.cell? ⟨gb346, 1, none⟩ = some (.int .i64 a2_1) ∧ w'.cell? ⟨gb346, 2, none⟩ = some (.int .i64 a2_2)) (ds := []) (bv_ 22 0) (by kernel_rfl) rfl rfl ⟨cz_ BK345 0, cz_ BK345 1, cz_ BK345 2, cz_ BK346 0, cz_ BK346 1, cz_ BK346 2⟩ (fun hHeld => ?_); refine with_tabW impl_holds.tab1 impl_holds.bits1 (fun HT_ HW_ => ?_)
 generalize w15.drew = w16 at BK345 BK346 HB hHeld ⊢
 refine px_ HT_ 0 7 1 ?_
 refine px_ HT_ 2 9 5 ?_
 refine ta_ HT_ HW_ 1 (some 8) (bv_ 22 7) hHeld ?_ (hy := by rintro w' ⟨s0, s1, s2, s3, s4, s5⟩; go_simp; with_reducible rfl)
 refine ta_ HT_ HW_ 3 (some 10) (bv_ 22 15) hHeld ?_ (hy := by rintro w' ⟨s0, s1, s2, s3, s4, s5⟩; go_simp; with_reducible rfl)
 refine px_ HT_ 4 11 31 ?_
 refine px_ HT_ 5 12 63 ?_
 refine pv_ HT_ 6 (some 13) (bv_ 22 127) ?_
 refine pv_ HT_ 7 (some 14) (bv_ 22 255) ?_
 refine pv_ HT_ 8 (some 15) (bv_ 22 511) ?_
 refine pv_ HT_ 9 (some 16) (bv_ 22 1023) ?_
 refine pv_ HT_ 10 (some 17) (bv_ 22 2047) ?_
 refine pv_ HT_ 11 (some 18) (bv_ 22 4095) ?_
 refine pv_ HT_ 12 (some 19) (bv_ 22 8191) ?_
 refine pv_ HT_ 13 (some 20) (bv_ 22 16383) ?_
 refine pv_ HT_ 14 (some 21) (bv_ 22 32767) ?_
 refine pv_ HT_ 15 (some 22) (bv_ 22 65535) ?_
 refine pv_ HT_ 16 (some 23) (bv_ 22 131071) ?_
 refine pv_ HT_ 17 (some 24) (bv_ 22 262143) ?_
 refine pv_ HT_ 18 (some 25) (bv_ 22 524287) ?_
 refine pv_ HT_ 19 (some 26) (bv_ 22 1048575) ?_
 refine px_ HT_ 20 27 2097151 ?_
 refine px_ HT_ 21 6 4194303 ?_
 refine done_ (done_of HT_.out (by kernel_rfl)) ?_
 try go_wp2
 go_ret
 exact ⟨es_, (bw_ HB).out⟩
def impl_apart.f (k : Nat) (a0 a1_0 a1_1 a1_2 a2_0 a2_1 a2_2 : Int) : Option (Bool) := (impl_holds.f k a0 a1_0 a1_1 a1_2 a2_0 a2_1 a2_2).bind fun t352 => (if t352 = true then (some false) else ((impl_holds.f k a0 a2_0 a2_1 a2_2 a1_0 a1_1 a1_2).bind fun t353 => (some (!t353))))
theorem impl_apart.calls (k : Nat) (a0 a1_0 a1_1 a1_2 a2_0 a2_1 a2_2 : Int) (r : Bool) (w : World) (h : impl_apart.f k a0 a1_0 a1_1 a1_2 a2_0 a2_1 a2_2 = some r) :
  Calls Try.prog 207 #[.int .i64 a0, .agg #[.int .i64 a1_0, .int .i64 a1_1, .int .i64 a1_2], .agg #[.int .i64 a2_0, .int .i64 a2_1, .int .i64 a2_2]] w fun e w' => e = .returned (.bool r) ∧ Below w.heap.size w w' := by
 have hu25 := Try.underlying25
 have HB := Aside0.mk (Below.refl w.heap.size w)
 unfold impl_apart.f at h
 have H := h
 clear h
 replace H := oc_ H
 obtain ⟨t352, A4, H⟩ := H
 replace H := ib_ H
 rcases H with ⟨rfl, H⟩ | ⟨rfl, H⟩
 ·obtain rfl := si_ H
  go_enter Try.func207, Try.ntmps207
  go_wp2_with (first | ((refine gd_ 4 ?_); refine by_ 4 #[.int .i64 a1_0, .int .i64 a1_1, .int .i64 a1_2] 25 HB ?_; intro gb350 hg w6 BK350 hb GW350 HB_; replace HB := HB_; clear hb hg) | ((refine gd_ 5 ?_); refine by_ 5 #[.int .i64 a2_0, .int .i64 a2_1, .int .i64 a2_2] 25 HB ?_; intro gb351 hg w7 BK351 hb GW351 HB_; have NB350_351 := bm_ BK350 hg; have NB351_350 := bn_ BK350 hg; replace BK350 := bb_ BK350 hb; replace HB := HB_; clear hb hg; have hnb8 := NB350_351.out; have hnc8 := NB351_350.out; obtain ⟨hcz9_0, hcz9_1, hcz9_2, hfz9_0, hfz9_1, hfz9_2⟩ := ch3_ BK350; obtain ⟨hcz10_0, hcz10_1, hcz10_2, hfz10_0, hfz10_1, hfz10_2⟩ := ch3_ BK351) | ((refine gc_ 206 ?_); refine ge_ 10 Try.func206 #[.int .i64 a0, .agg #[.int .i64 a1_0, .int .i64 a1_1, .int .i64 a1_2], .agg #[.int .i64 a2_0, .int .i64 a2_1, .int .i64 a2_2]] ?_; (with_reducible refine (impl_holds.calls k a0 a1_0 a1_1 a1_2 a2_0 a2_1 a2_2 true _ A4.out).mono ?_); rintro e w11 ⟨rfl, hb⟩; refine ⟨_, rfl, ?_⟩; replace BK350 := bb_ BK350 hb; replace BK351 := bb_ BK351 hb; replace HB := bt_ HB hb; (try clear hb)))
  go_ret
  exact ⟨es_, (bw_ HB).out⟩
 replace H := oc_ H
 obtain ⟨t353, A12, H⟩ := H
 obtain rfl := si_ H
 go_enter Try.func207, Try.ntmps207
 go_wp2_with (first | ((refine gd_ 4 ?_); refine by_ 4 #[.int .i64 a1_0, .int .i64 a1_1, .int .i64 a1_2] 25 HB ?_; intro gb350 hg w13 BK350 hb GW350 HB_; replace HB := HB_; clear hb hg) | ((refine gd_ 5 ?_); refine by_ 5 #[.int .i64 a2_0, .int .i64 a2_1, .int .i64 a2_2] 25 HB ?_; intro gb351 hg w14 BK351 hb GW351 HB_; have NB350_351 := bm_ BK350 hg; have NB351_350 := bn_ BK350 hg; replace BK350 := bb_ BK350 hb; replace HB := HB_; clear hb hg; have hnb15 := NB350_351.out; have hnc15 := NB351_350.out; obtain ⟨hcz16_0, hcz16_1, hcz16_2, hfz16_0, hfz16_1, hfz16_2⟩ := ch3_ BK350; obtain ⟨hcz17_0, hcz17_1, hcz17_2, hfz17_0, hfz17_1, hfz17_2⟩ := ch3_ BK351) | ((refine gc_ 206 ?_); refine ge_ 10 Try.func206 #[.int .i64 a0, .agg #[.int .i64 a1_0, .int .i64 a1_1, .int .i64 a1_2], .agg #[.int .i64 a2_0, .int .i64 a2_1, .int .i64 a2_2]] ?_; (with_reducible refine (impl_holds.calls k a0 a1_0 a1_1 a1_2 a2_0 a2_1 a2_2 false _ A4.out).mono ?_); rintro e w18 ⟨rfl, hb⟩; refine ⟨_, rfl, ?_⟩; replace BK350 := bb_ BK350 hb; replace BK351 := bb_ BK351 hb; replace HB := bt_ HB hb; (try clear hb); obtain ⟨hcz19_0, hcz19_1, hcz19_2, hfz19_0, hfz19_1, hfz19_2⟩ := ch3_ BK351; obtain ⟨hcz20_0, hcz20_1, hcz20_2, hfz20_0, hfz20_1, hfz20_2⟩ := ch3_ BK350) | (go_at_call 206; (with_reducible refine (impl_holds.calls k a0 a2_0 a2_1 a2_2 a1_0 a1_1 a1_2 t353 _ A12.out).mono ?_); rintro e w21 ⟨rfl, hb⟩; replace BK350 := bb_ BK350 hb; replace BK351 := bb_ BK351 hb; replace HB := bt_ HB hb; (try clear hb)))
 go_ret
 exact ⟨es_, (bw_ HB).out⟩
def impl_apartSides.j0 : Nat → Int → Bool → Int → Int → Int → Bool → Int → Int → Int → Bool → Option (Bool)
 | 0, _, _, _, _, _, _, _, _, _, _ => none
 | k + 1, x0, x7, x355000, x355001, x355002, x355003, x356000, x356001, x356002, x356003 => if x7 = true then (some false) else (if x355003 = true then ((impl_holds.f k x0 x355000 x355001 x355002 x356000 x356001 x356002).bind fun t356 => (some t356)) else (if x356003 = true then ((impl_holds.f k x0 x356000 x356001 x356002 x355000 x355001 x355002).bind fun t357 => (some t357)) else ((impl_apart.f k x0 x355000 x355001 x355002 x356000 x356001 x356002).bind fun t358 => (some t358))))
def impl_apartSides.f (k : Nat) (a0 a1_0 a1_1 a1_2 : Int) (a1_3 : Bool) (a2_0 a2_1 a2_2 : Int) (a2_3 : Bool) : Option (Bool) := if a1_3 = true then (impl_apartSides.j0 k a0 a2_3 a1_0 a1_1 a1_2 a1_3 a2_0 a2_1 a2_2 a2_3) else (impl_apartSides.j0 k a0 false a1_0 a1_1 a1_2 a1_3 a2_0 a2_1 a2_2 a2_3)
theorem impl_apartSides.calls (k : Nat) (a0 a1_0 a1_1 a1_2 : Int) (a1_3 : Bool) (a2_0 a2_1 a2_2 : Int) (a2_3 r : Bool) (w : World) (h : impl_apartSides.f k a0 a1_0 a1_1 a1_2 a1_3 a2_0 a2_1 a2_2 a2_3 = some r) :
  Calls Try.prog 198 #[.int .i64 a0, .agg #[.int .i64 a1_0, .int .i64 a1_1, .int .i64 a1_2, .bool a1_3], .agg #[.int .i64 a2_0, .int .i64 a2_1, .int .i64 a2_2, .bool a2_3]] w fun e w' => e = .returned (.bool r) ∧ Below w.heap.size w w' := by
 have hu150 := Try.underlying150
 have hu25 := Try.underlying25
 have HB := Aside0.mk (Below.refl w.heap.size w)
 unfold impl_apartSides.f at h
 have H := h
 clear h
 have HC4 := Aside0.mk H
 clear H
 go_enter Try.func198, Try.ntmps198
 go_upto_region 1 with (first | ((refine gd_ 4 ?_); refine by_ 4 #[.int .i64 a1_0, .int .i64 a1_1, .int .i64 a1_2, .bool a1_3] 150 HB ?_; intro gb354 hg w5 BK354 hb GW354 HB_; replace HB := HB_; clear hb hg) | ((refine gd_ 5 ?_); refine by_ 5 #[.int .i64 a2_0, .int .i64 a2_1, .int .i64 a2_2, .bool a2_3] 150 HB ?_; intro gb355 hg w6 BK355 hb GW355 HB_; have NB354_355 := bm_ BK354 hg; have NB355_354 := bn_ BK354 hg; replace BK354 := bb_ BK354 hb; replace HB := HB_; clear hb hg))
 (try simp only [Act.put, lstS, lstZ, lstC])
 go_cut [7] (fun v7 wc => ∃ (kq : Nat) (x7_3 : Bool), v7 = .bool x7_3 ∧ Aside0 (impl_apartSides.j0 kq a0 x7_3 a1_0 a1_1 a1_2 a1_3 a2_0 a2_1 a2_2 a2_3 = some r) ∧ Aside0 (kq ≤ k) ∧ Aside0 (wc.heap[gb354]? = some (.cells #[.int .i64 a1_0, .int .i64 a1_1, .int .i64 a1_2, .bool a1_3] 150 (0, 0))) ∧ Aside0 (wc.heap[gb355]? = some (.cells #[.int .i64 a2_0, .int .i64 a2_1, .int .i64 a2_2, .bool a2_3] 150 (0, 0))) ∧ Aside0 (Below w.heap.size w wc))
 case first =>
  have H := HC4.out
  clear HC4
  replace H := ib_ H
  rcases H with ⟨rfl, H⟩ | ⟨rfl, H⟩
  ·have H' := Aside0.mk H
   clear H
   have hnb8 := NB354_355.out
   have hnc8 := NB355_354.out
   obtain ⟨hcz9_0, hcz9_1, hcz9_2, hcz9_3, hfz9_0, hfz9_1, hfz9_2, hfz9_3⟩ := ch4_ BK354
   obtain ⟨hcz10_0, hcz10_1, hcz10_2, hcz10_3, hfz10_0, hfz10_1, hfz10_2, hfz10_3⟩ := ch4_ BK355
   go_wp2
   go_meet
   case rel => exact ⟨_, (a2_3), en_, H', ⟨by first | omega | exact Nat.le_refl _⟩, bl_ BK354, bl_ BK355, bw_ HB⟩
  have H' := Aside0.mk H
  clear H
  have hnb11 := NB354_355.out
  have hnc11 := NB355_354.out
  obtain ⟨hcz12_0, hcz12_1, hcz12_2, hcz12_3, hfz12_0, hfz12_1, hfz12_2, hfz12_3⟩ := ch4_ BK354
  go_wp2
  go_meet
  case rel => exact ⟨_, (false), en_, H', ⟨by first | omega | exact Nat.le_refl _⟩, bl_ BK354, bl_ BK355, bw_ HB⟩
 clear HC4
 try clear hcz10_0 hcz10_1 hcz10_2 hcz10_3
 try clear hcz12_0 hcz12_1 hcz12_2 hcz12_3
 try clear hcz9_0 hcz9_1 hcz9_2 hcz9_3
 try clear hfz10_0 hfz10_1 hfz10_2 hfz10_3
 try clear hfz12_0 hfz12_1 hfz12_2 hfz12_3
 try clear hfz9_0 hfz9_1 hfz9_2 hfz9_3
 obtain ⟨kq, x7_3, rfl, HA, HJ3, BK354, BK355, HB⟩ := hcut
 cases kq with
 | zero => exact absurd HA.out (by simp [impl_apartSides.j0])
 | succ kj3 =>
  have H := HA.out
  clear HA
  simp only [impl_apartSides.j0] at H
  replace H := ib_ H
  rcases H with ⟨rfl, H⟩ | ⟨rfl, H⟩
  ·obtain rfl := si_ H
   go_wp2
   go_ret
   exact ⟨es_, (bw_ HB).out⟩
  replace H := ib_ H
  rcases H with ⟨rfl, H⟩ | ⟨rfl, H⟩
  ·replace H := oc_ H
   obtain ⟨t356, A15, H⟩ := H
   obtain rfl := si_ H
   have hnb16 := NB354_355.out
   have hnc16 := NB355_354.out
   obtain ⟨hcz17_0, hcz17_1, hcz17_2, hcz17_3, hfz17_0, hfz17_1, hfz17_2, hfz17_3⟩ := ch4_ BK354
   obtain ⟨hcz18_0, hcz18_1, hcz18_2, hcz18_3, hfz18_0, hfz18_1, hfz18_2, hfz18_3⟩ := ch4_ BK355
   go_wp2_with (first | ((refine gc_ 206 ?_); refine ge_ 22 Try.func206 #[.int .i64 a0, .agg #[.int .i64 a1_0, .int .i64 a1_1, .int .i64 a1_2], .agg #[.int .i64 a2_0, .int .i64 a2_1, .int .i64 a2_2]] ?_; (with_reducible refine (impl_holds.calls kj3 a0 a1_0 a1_1 a1_2 a2_0 a2_1 a2_2 t356 _ A15.out).mono ?_); rintro e w19 ⟨rfl, hb⟩; refine ⟨_, rfl, ?_⟩; replace BK354 := bb_ BK354 hb; replace BK355 := bb_ BK355 hb; replace HB := bt_ HB hb; (try clear hb)))
   go_ret
   exact ⟨es_, (bw_ HB).out⟩
  replace H := ib_ H
  rcases H with ⟨rfl, H⟩ | ⟨rfl, H⟩
  ·replace H := oc_ H
   obtain ⟨t357, A21, H⟩ := H
   obtain rfl := si_ H
   have hnb22 := NB354_355.out
   have hnc22 := NB355_354.out
   obtain ⟨hcz23_0, hcz23_1, hcz23_2, hcz23_3, hfz23_0, hfz23_1, hfz23_2, hfz23_3⟩ := ch4_ BK354
   obtain ⟨hcz24_0, hcz24_1, hcz24_2, hcz24_3, hfz24_0, hfz24_1, hfz24_2, hfz24_3⟩ := ch4_ BK355
   go_wp2_with (first | ((refine gc_ 206 ?_); refine ge_ 31 Try.func206 #[.int .i64 a0, .agg #[.int .i64 a2_0, .int .i64 a2_1, .int .i64 a2_2], .agg #[.int .i64 a1_0, .int .i64 a1_1, .int .i64 a1_2]] ?_; (with_reducible refine (impl_holds.calls kj3 a0 a2_0 a2_1 a2_2 a1_0 a1_1 a1_2 t357 _ A21.out).mono ?_); rintro e w25 ⟨rfl, hb⟩; refine ⟨_, rfl, ?_⟩; replace BK354 := bb_ BK354 hb; replace BK355 := bb_ BK355 hb; replace HB := bt_ HB hb; (try clear hb)))
   go_ret
   exact ⟨es_, (bw_ HB).out⟩
  replace H := oc_ H
  obtain ⟨t358, A26, H⟩ := H
  obtain rfl := si_ H
  have hnb27 := NB354_355.out
  have hnc27 := NB355_354.out
  obtain ⟨hcz28_0, hcz28_1, hcz28_2, hcz28_3, hfz28_0, hfz28_1, hfz28_2, hfz28_3⟩ := ch4_ BK354
  obtain ⟨hcz29_0, hcz29_1, hcz29_2, hcz29_3, hfz29_0, hfz29_1, hfz29_2, hfz29_3⟩ := ch4_ BK355
  go_wp2_with (first | ((refine gc_ 207 ?_); refine ge_ 37 Try.func207 #[.int .i64 a0, .agg #[.int .i64 a1_0, .int .i64 a1_1, .int .i64 a1_2], .agg #[.int .i64 a2_0, .int .i64 a2_1, .int .i64 a2_2]] ?_; (with_reducible refine (impl_apart.calls kj3 a0 a1_0 a1_1 a1_2 a2_0 a2_1 a2_2 t358 _ A26.out).mono ?_); rintro e w30 ⟨rfl, hb⟩; refine ⟨_, rfl, ?_⟩; replace BK354 := bb_ BK354 hb; replace BK355 := bb_ BK355 hb; replace HB := bt_ HB hb; (try clear hb)))
  go_ret
  exact ⟨es_, (bw_ HB).out⟩
def impl_valuation.l0 : Nat → Int → Int → Int → Option (Int)
 | 0, _, _, _ => none
 | k + 1, x0, x1, x5 => if x0 = 0 then (none) else (if (Int.tmod x1 x0) = 0 then (impl_valuation.l0 k x0 (wrap64 (Int.tdiv x1 x0)) (wrap64 (x5 + 1))) else (some x5))
def impl_valuation.f (k : Nat) (a0 a1 : Int) : Option (Int) := if a1 = 0 then (some 1000) else (impl_valuation.l0 k a0 a1 0)
theorem impl_valuation.calls (k : Nat) (a0 a1 r : Int) (w : World) (h : impl_valuation.f k a0 a1 = some r) :
  Calls Try.prog 164 #[.int .i64 a0, .int .i64 a1] w fun e w' => e = .returned (.int .i64 r) ∧ Drawn0 w w' := by
 unfold impl_valuation.f at h
 have H := h
 clear h
 replace H := ie_ H
 rcases H with ⟨c3b0, c3b1, H⟩ | ⟨c3, c3b0, c3b1, H⟩
 ·obtain rfl := si_ H
  go_enter Try.func164, Try.ntmps164
  go_wp2
  go_ret
  exact ⟨en_, de_⟩
 have H' := Aside0.mk H
 clear H
 go_enter Try.func164, Try.ntmps164
 go_wp2
 go_loopg [1, 5] k (fun kq v1 v5 w' => ∃ (x1_1 : Int) (x5_1 : Int), v1 = .int .i64 x1_1 ∧ v5 = .int .i64 x5_1 ∧ Aside0 (impl_valuation.l0 kq a0 x1_1 x5_1 = some r) ∧ Aside0 (kq ≤ k) ∧ Drawn0 w w')
 case atStart => exact ⟨(a1), (0), en_, en_, H', ⟨Nat.le_refl _⟩, de_⟩
 clear H'
 try clear c3
 try clear c3b0
 try clear c3b1
 obtain ⟨x1_1, x5_1, rfl, rfl, HA, HK1, ⟨m1, rfl⟩⟩ := hrel
 cases gk with
 | zero => exact absurd HA.out (by simp [impl_valuation.l0])
 | succ k1 =>
  have H := HA.out
  clear HA
  simp only [impl_valuation.l0] at H
  replace H := ief_ H
  obtain ⟨c4, c4b0, c4b1, H⟩ := H
  replace H := ie_ H
  rcases H with ⟨c5b0, c5b1, H⟩ | ⟨c5, c5b0, c5b1, H⟩
  ·have H' := Aside0.mk H
   clear H
   go_wp2
   go_roundg k1
   case measure => have := HK1.out; omega
   case rel => exact ⟨(wrap64 (Int.tdiv x1_1 a0)), (wrap64 (x5_1 + 1)), en_, en_, H', ⟨by have := HK1.out; omega⟩, de_⟩
  obtain rfl := si_ H
  go_wp2
  go_ret
  exact ⟨en_, de_⟩
def bits_Mul64.f (a0 a1 : Int) : Option (Int × Int) := some (IntKind.u64.wrap ((IntKind.u64.wrap ((IntKind.u64.wrap ((a0 / 4294967296) * (a1 / 4294967296))) + ((IntKind.u64.wrap ((IntKind.u64.wrap ((a0 / 4294967296) * (Go.bits .and .u64 a1 4294967295))) + ((IntKind.u64.wrap ((Go.bits .and .u64 a0 4294967295) * (Go.bits .and .u64 a1 4294967295))) / 4294967296))) / 4294967296))) + ((IntKind.u64.wrap ((Go.bits .and .u64 (IntKind.u64.wrap ((IntKind.u64.wrap ((a0 / 4294967296) * (Go.bits .and .u64 a1 4294967295))) + ((IntKind.u64.wrap ((Go.bits .and .u64 a0 4294967295) * (Go.bits .and .u64 a1 4294967295))) / 4294967296))) 4294967295) + (IntKind.u64.wrap ((Go.bits .and .u64 a0 4294967295) * (a1 / 4294967296))))) / 4294967296)), IntKind.u64.wrap (a0 * a1))
theorem bits_Mul64.calls (a0 a1 r1 r2 : Int) (w : World) (h : bits_Mul64.f a0 a1 = some (r1, r2)) :
  Calls Try.prog 202 #[.int .u64 a0, .int .u64 a1] w fun e w' => e = .returned (.tuple #[.int .u64 r1, .int .u64 r2]) ∧ Drawn0 w w' := by
 unfold bits_Mul64.f at h
 have H := h
 clear h
 simp only [Option.some.injEq, Prod.mk.injEq] at H
 obtain ⟨rfl, rfl⟩ := H
 go_enter Try.func202, Try.ntmps202
 go_wp2
 go_ret2
 exact ⟨en_, de_⟩
def impl_mod.f (a0 a1 : Int) : Option (Int) := if a1 = 0 then (none) else (some (Int.tmod (wrap64 ((Int.tmod a0 a1) + a1)) a1))
theorem impl_mod.calls (a0 a1 r : Int) (w : World) (h : impl_mod.f a0 a1 = some r) :
  Calls Try.prog 203 #[.int .i64 a0, .int .i64 a1] w fun e w' => e = .returned (.int .i64 r) ∧ Drawn0 w w' := by
 unfold impl_mod.f at h
 have H := h
 clear h
 replace H := ief_ H
 obtain ⟨c3, c3b0, c3b1, H⟩ := H
 obtain rfl := si_ H
 go_enter Try.func203, Try.ntmps203
 go_wp2
 go_ret
 exact ⟨en_, de_⟩
end Go.Proofs.Ytgoeelhiffbjlaa.QB
