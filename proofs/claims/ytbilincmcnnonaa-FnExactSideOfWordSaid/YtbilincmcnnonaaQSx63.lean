import Derived.Test.YtbilincmcnnonaaQSx8
import Derived.Test.YtbilincmcnnonaaQSx49
namespace Go.Proofs.Ytbilincmcnnonaa.QS
set_option maxHeartbeats 8000000
set_option maxRecDepth 100000
open Go.RowKit Go.Proofs.YtbilincmcnnonaaW.PrintWords Go.Proofs.YtbilincmcnnonaaW.PrintLast Go.Proofs.YtbilincmcnnonaaW.PrintMore
attribute [local go_sem] isSome_setCell max2_int min2_int max_two min_two max_three min_three max_four min_four
set_option linter.unusedVariables false
set_option linter.unusedSimpArgs false

/-! ### impl_holds: function 200 -/
def impl_holds.f (k : Nat) (a0 : Int) (a1_0 : Int) (a1_1 : Int) (a1_2 : Int) (a2_0 : Int) (a2_1 : Int) (a2_2 : Int) : Option (Bool) := if a1_0 ≤ a2_0 then ((impl_mark.f k a0 a2_0 a2_1 a2_2).bind fun t364 => ((impl_mark.f k a0 a1_0 a1_1 a1_2).bind fun t365 => ((impl_power.f k a0 (wrap64 (a1_0 + 6))).bind fun t366 => (if t366 = 0 then (none) else (some ((Int.tmod (wrap64 (t364 - t365)) t366) == 0)))))) else (some false)
def impl_holds.T1 : Bool × List (List Nat × List Nat) := (true, [([], []), ([0], [0]), ([], []), ([2], [2]), ([1, 3], [1, 3]), ([4], [4]), ([5], [5]), ([5], [5]), ([6, 7, 5, 5], [5, 6, 7]), ([5], [5]), ([5], [5]), ([9, 10, 8, 5], [5, 9, 10]), ([8, 11, 5], [5, 8, 11]), ([5], [5]), ([5], [5]), ([14, 5], [5, 14]), ([15, 5], [5, 15]), ([13, 16, 11, 5], [5, 13, 16]), ([12, 17, 5], [5, 12, 17]), ([18, 5], [5, 18]), ([5, 19], [5, 19]), ([20, 17, 0, 1, 2, 3, 4, 5, 6, 7, 8, 9, 10, 11, 12, 13, 14, 15, 16, 17, 18, 19, 20], [20])])
def impl_holds.B1 : List Nat := [0, 1, 0, 4, 15, 31, 63, 63, 255, 63, 63, 2047, 4095, 63, 63, 16447, 49215, 126975, 262143, 524287, 1048575, 2097151]
theorem impl_holds.tab1 : rtab .any (opsOf Try.f200 1) = impl_holds.T1 := by kernel_rfl
theorem impl_holds.bits1 : waitsOk impl_holds.T1.2 impl_holds.B1 = true := by kernel_rfl
theorem impl_holds.calls (k : Nat) (a0 : Int) (a1_0 : Int) (a1_1 : Int) (a1_2 : Int) (a2_0 : Int) (a2_1 : Int) (a2_2 : Int) (r : Bool) (w : World) (h : impl_holds.f k a0 a1_0 a1_1 a1_2 a2_0 a2_1 a2_2 = some r) :
  Calls Try.prog 200 #[.int .i64 a0, .agg #[.int .i64 a1_0, .int .i64 a1_1, .int .i64 a1_2], .agg #[.int .i64 a2_0, .int .i64 a2_1, .int .i64 a2_2]] w fun e w' => e = .returned (.bool r) ∧ Below w.heap.size w w' := by
 have hu39 := Try.underlying39
 have HB := Aside0.mk (Below.refl w.heap.size w)
 have H : (if a1_0 ≤ a2_0 then ((impl_mark.f k a0 a2_0 a2_1 a2_2).bind fun t364 => ((impl_mark.f k a0 a1_0 a1_1 a1_2).bind fun t365 => ((impl_power.f k a0 (wrap64 (a1_0 + 6))).bind fun t366 => (if t366 = 0 then (none) else (some ((Int.tmod (wrap64 (t364 - t365)) t366) == 0)))))) else (some false)) = some r := h
 clear h
 by_cases c4 : a1_0 ≤ a2_0
 ·rw [if_pos c4] at H
  have c4b0 : decide (a1_0 ≤ a2_0) = true := decide_eq_true c4
  clear c4
  replace H := ob_ H
  obtain ⟨t364, A50, H⟩ := H
  have A5 := Aside0.mk A50
  clear A50
  replace H := ob_ H
  obtain ⟨t365, A60, H⟩ := H
  have A6 := Aside0.mk A60
  clear A60
  replace H := ob_ H
  obtain ⟨t366, A70, H⟩ := H
  have A7 := Aside0.mk A70
  clear A70
  by_cases c8 : t366 = 0
  ·rw [if_pos c8] at H
   exact absurd H (by simp)
  ·rw [if_neg c8] at H
   have c8b0 : (t366 == 0) = false := beq_eq_false_iff_ne.mpr c8
   have c8b1 : (t366 != 0) = true := bne_iff_ne.mpr c8
   obtain rfl := si_ H
   go_enter Try.func200, Try.ntmps200
   try go_wp2_with (first | (refine bx_ 4 #[.int .i64 a1_0, .int .i64 a1_1, .int .i64 a1_2] 39 ?_; intro gb362 hg w9 hbox hb; have BK362 := Aside0.mk (hbox); have GW362 := bs_ HB hg; have GE362 := bs_ HB hg; replace HB := bt_ HB hb; clear hb hbox hg) | (refine bx_ 5 #[.int .i64 a2_0, .int .i64 a2_1, .int .i64 a2_2] 39 ?_; intro gb363 hg w10 hbox hb; have BK363 := Aside0.mk (hbox); have GW363 := bs_ HB hg; have GE363 := bs_ HB hg; have NB362_363 := bm_ BK362 hg; have NB363_362 := bn_ BK362 hg; replace BK362 := bb_ BK362 hb; replace HB := bt_ HB hb; clear hb hbox hg))
   replace BK362 := Aside0.mk (blk_drew BK362.out)
   replace BK363 := Aside0.mk (blk_drew BK363.out)
   replace HB := Aside0.mk (below_drew1 HB.out)
   refine start_ (n := 22) (S := fun w' => w'.cell? ⟨gb362, 0, none⟩ = some (.int .i64 a1_0) ∧ w'.cell? ⟨gb362, 1, none⟩ = some (.int .i64 a1_1) ∧ w'.cell? ⟨gb362, 2, none⟩ = some (.int .i64 a1_2) ∧ w'.cell? ⟨gb363, 0, none⟩ = some (.int .i64 a2_0) ∧ w'.cell? ⟨gb363, 1, none⟩ = some (.int .i64 a2_1) ∧ w'.cell? ⟨gb363, 2, none⟩ = some (.int .i64 a2_2)) (ds := []) (bv_ 22 0) (by kernel_rfl) rfl rfl ⟨cz_ BK362 0, cz_ BK362 1, cz_ BK362 2, cz_ BK363 0, cz_ BK363 1, cz_ BK363 2⟩ (fun hHeld => ?_); refine with_tabW impl_holds.tab1 impl_holds.bits1 (fun HT_ HW_ => ?_)
   generalize w10.drew = w11 at BK362 BK363 HB hHeld ⊢
   refine pu_ HT_ 0 (some 7) (bv_ 22 1) ?_
   refine pu_ HT_ 2 (some 9) (bv_ 22 5) ?_
   refine ta_ HT_ HW_ 1 (some 8) (bv_ 22 7) hHeld ?_ (hy := by rintro w' ⟨s0, s1, s2, s3, s4, s5⟩; go_simp; with_reducible rfl)
   refine ta_ HT_ HW_ 3 (some 10) (bv_ 22 15) hHeld ?_ (hy := by rintro w' ⟨s0, s1, s2, s3, s4, s5⟩; go_simp; with_reducible rfl)
   refine pu_ HT_ 4 (some 11) (bv_ 22 31) ?_
   refine pu_ HT_ 5 (some 12) (bv_ 22 63) ?_
   refine pu_ HT_ 6 (some 13) (bv_ 22 127) ?_
   refine pu_ HT_ 9 (some 16) (bv_ 22 639) ?_
   refine pu_ HT_ 13 (some 20) (bv_ 22 8831) ?_
   refine pu_ HT_ 14 (some 21) (bv_ 22 25215) ?_
   refine ta_ HT_ HW_ 7 (some 14) (bv_ 22 25343) hHeld ?_ (hy := by rintro w' ⟨s0, s1, s2, s3, s4, s5⟩; go_simp; with_reducible rfl)
   refine ta_ HT_ HW_ 10 (some 17) (bv_ 22 26367) hHeld ?_ (hy := by rintro w' ⟨s0, s1, s2, s3, s4, s5⟩; go_simp; with_reducible rfl)
   refine ta_ HT_ HW_ 15 (some 22) (bv_ 22 59135) hHeld ?_ (hy := by rintro w' ⟨s0, s1, s2, s3, s4, s5⟩; go_simp; with_reducible rfl)
   refine pu_ HT_ 16 (some 23) (bv_ 22 124671) ?_
   refine on_ HT_ 8 (some 15) (bv_ 22 124927) (fun K hK => ?_)
   refine gs_ Try.func167 #[.int .i64 a0, .agg #[.int .i64 a2_0, .int .i64 a2_1, .int .i64 a2_2]] ?_
   with_reducible refine (impl_mark.calls k a0 a2_0 a2_1 a2_2 t364 _ A5.out).mono ?_
   rintro e w12 ⟨rfl, hb⟩
   refine ⟨_, rfl, ?_⟩
   replace BK362 := bb_ BK362 hb
   replace BK363 := bb_ BK363 hb
   replace HB := bt_ HB hb
   (try clear hb)
   (try clear hb2)
   (try clear hk)
   (try clear hi)
   refine hK.out _ _ ⟨cz_ BK362 0, cz_ BK362 1, cz_ BK362 2, cz_ BK363 0, cz_ BK363 1, cz_ BK363 2⟩ (fun hHeld => ?_)
   clear hK K
   refine nm_ (some 15) ?_
   refine on_ HT_ 11 (some 18) (bv_ 22 126975) (fun K hK => ?_)
   refine gs_ Try.func167 #[.int .i64 a0, .agg #[.int .i64 a1_0, .int .i64 a1_1, .int .i64 a1_2]] ?_
   with_reducible refine (impl_mark.calls k a0 a1_0 a1_1 a1_2 t365 _ A6.out).mono ?_
   rintro e w13 ⟨rfl, hb⟩
   refine ⟨_, rfl, ?_⟩
   replace BK362 := bb_ BK362 hb
   replace BK363 := bb_ BK363 hb
   replace HB := bt_ HB hb
   (try clear hb)
   (try clear hb2)
   (try clear hk)
   (try clear hi)
   refine hK.out _ _ ⟨cz_ BK362 0, cz_ BK362 1, cz_ BK362 2, cz_ BK363 0, cz_ BK363 1, cz_ BK363 2⟩ (fun hHeld => ?_)
   clear hK K
   refine nm_ (some 18) ?_
   refine pu_ HT_ 12 (some 19) (bv_ 22 131071) ?_
   refine on_ HT_ 17 (some 24) (bv_ 22 262143) (fun K hK => ?_)
   refine gs_ Try.func152 #[.int .i64 a0, .int .i64 (wrap64 (a1_0 + 6))] ?_
   with_reducible refine (impl_power.calls k a0 (wrap64 (a1_0 + 6)) t366 _ A7.out).mono ?_
   rintro e w' ⟨rfl, ⟨nd, rfl⟩⟩
   refine ⟨_, rfl, ?_⟩
   refine hK.out _ _ ⟨cz_ BK362 0, cz_ BK362 1, cz_ BK362 2, cz_ BK363 0, cz_ BK363 1, cz_ BK363 2⟩ (fun hHeld => ?_)
   clear hK K
   refine nm_ (some 24) ?_
   refine pu_ HT_ 18 (some 25) (bv_ 22 524287) ?_
   refine pu_ HT_ 19 (some 26) (bv_ 22 1048575) ?_
   refine pu_ HT_ 20 (some 27) (bv_ 22 2097151) ?_
   refine pu_ HT_ 21 (some 6) (bv_ 22 4194303) ?_
   refine done_ (done_of HT_.out (by kernel_rfl)) ?_
   try go_wp2
   go_ret
   exact ⟨es_, (bw_ HB).out⟩
 ·rw [if_neg c4] at H
  have c4b0 : decide (a1_0 ≤ a2_0) = false := decide_eq_false c4
  clear c4
  obtain rfl := si_ H
  go_enter Try.func200, Try.ntmps200
  try go_wp2_with (first | (refine bx_ 4 #[.int .i64 a1_0, .int .i64 a1_1, .int .i64 a1_2] 39 ?_; intro gb362 hg w14 hbox hb; have BK362 := Aside0.mk (hbox); have GW362 := bs_ HB hg; have GE362 := bs_ HB hg; replace HB := bt_ HB hb; clear hb hbox hg) | (refine bx_ 5 #[.int .i64 a2_0, .int .i64 a2_1, .int .i64 a2_2] 39 ?_; intro gb363 hg w15 hbox hb; have BK363 := Aside0.mk (hbox); have GW363 := bs_ HB hg; have GE363 := bs_ HB hg; have NB362_363 := bm_ BK362 hg; have NB363_362 := bn_ BK362 hg; replace BK362 := bb_ BK362 hb; replace HB := bt_ HB hb; clear hb hbox hg))
  replace BK362 := Aside0.mk (blk_drew BK362.out)
  replace BK363 := Aside0.mk (blk_drew BK363.out)
  replace HB := Aside0.mk (below_drew1 HB.out)
  refine start_ (n := 22) (S := fun w' => w'.cell? ⟨gb362, 0, none⟩ = some (.int .i64 a1_0) ∧ w'.cell? ⟨gb362, 1, none⟩ = some (.int .i64 a1_1) ∧ w'.cell? ⟨gb362, 2, none⟩ = some (.int .i64 a1_2) ∧ w'.cell? ⟨gb363, 0, none⟩ = some (.int .i64 a2_0) ∧ w'.cell? ⟨gb363, 1, none⟩ = some (.int .i64 a2_1) ∧ w'.cell? ⟨gb363, 2, none⟩ = some (.int .i64 a2_2)) (ds := []) (bv_ 22 0) (by kernel_rfl) rfl rfl ⟨cz_ BK362 0, cz_ BK362 1, cz_ BK362 2, cz_ BK363 0, cz_ BK363 1, cz_ BK363 2⟩ (fun hHeld => ?_); refine with_tabW impl_holds.tab1 impl_holds.bits1 (fun HT_ HW_ => ?_)
  generalize w15.drew = w16 at BK362 BK363 HB hHeld ⊢
  refine pu_ HT_ 0 (some 7) (bv_ 22 1) ?_
  refine pu_ HT_ 2 (some 9) (bv_ 22 5) ?_
  refine ta_ HT_ HW_ 1 (some 8) (bv_ 22 7) hHeld ?_ (hy := by rintro w' ⟨s0, s1, s2, s3, s4, s5⟩; go_simp; with_reducible rfl)
  refine ta_ HT_ HW_ 3 (some 10) (bv_ 22 15) hHeld ?_ (hy := by rintro w' ⟨s0, s1, s2, s3, s4, s5⟩; go_simp; with_reducible rfl)
  refine pu_ HT_ 4 (some 11) (bv_ 22 31) ?_
  refine pu_ HT_ 5 (some 12) (bv_ 22 63) ?_
  refine pv_ HT_ 6 (some 13) (bv_ 22 127) ?_
  refine pv_ HT_ 7 (some 14) (bv_ 22 255) ?_
  refine pv_ HT_ 8 (some 15) (bv_ 22 511) ?_
  refine pv_ HT_ 9 (some 16) (bv_ 22 1023) ?_
  refine pv_ HT_ 10 (some 17) (bv_ 22 2047) ?_
  refine pv_ HT_ 11 (some 18) (bv_ 22 4095) ?_
  refine pv_ HT_ 12 (some 19) (bv_ 22 8191) ?_
  refine pv_ HT_ 13 (some 20) (bv_ 22 16383) ?_
  refine pv_ HT_ 14 (some 21) (bv_ 22 32767) ?_
  refine pv_ HT_ 15 (some 22) (bv_ 22 65535) ?_
  refine pv_ HT_ 16 (some 23) (bv_ 22 131071) ?_
  refine pv_ HT_ 17 (some 24) (bv_ 22 262143) ?_
  refine pv_ HT_ 18 (some 25) (bv_ 22 524287) ?_
  refine pv_ HT_ 19 (some 26) (bv_ 22 1048575) ?_
  refine pu_ HT_ 20 (some 27) (bv_ 22 2097151) ?_
  refine pu_ HT_ 21 (some 6) (bv_ 22 4194303) ?_
  refine done_ (done_of HT_.out (by kernel_rfl)) ?_
  try go_wp2
  go_ret
  exact ⟨es_, (bw_ HB).out⟩
/-! ### impl_apart: function 201 -/
def impl_apart.f (k : Nat) (a0 : Int) (a1_0 : Int) (a1_1 : Int) (a1_2 : Int) (a2_0 : Int) (a2_1 : Int) (a2_2 : Int) : Option (Bool) := (impl_holds.f k a0 a1_0 a1_1 a1_2 a2_0 a2_1 a2_2).bind fun t369 => (if t369 = true then (some false) else ((impl_holds.f k a0 a2_0 a2_1 a2_2 a1_0 a1_1 a1_2).bind fun t370 => (some (!t370))))
theorem impl_apart.calls (k : Nat) (a0 : Int) (a1_0 : Int) (a1_1 : Int) (a1_2 : Int) (a2_0 : Int) (a2_1 : Int) (a2_2 : Int) (r : Bool) (w : World) (h : impl_apart.f k a0 a1_0 a1_1 a1_2 a2_0 a2_1 a2_2 = some r) :
  Calls Try.prog 201 #[.int .i64 a0, .agg #[.int .i64 a1_0, .int .i64 a1_1, .int .i64 a1_2], .agg #[.int .i64 a2_0, .int .i64 a2_1, .int .i64 a2_2]] w fun e w' => e = .returned (.bool r) ∧ Below w.heap.size w w' := by
 have hu39 := Try.underlying39
 have HB := Aside0.mk (Below.refl w.heap.size w)
 have H : ((impl_holds.f k a0 a1_0 a1_1 a1_2 a2_0 a2_1 a2_2).bind fun t369 => (if t369 = true then (some false) else ((impl_holds.f k a0 a2_0 a2_1 a2_2 a1_0 a1_1 a1_2).bind fun t370 => (some (!t370))))) = some r := h
 clear h
 replace H := ob_ H
 obtain ⟨t369, A40, H⟩ := H
 have A4 := Aside0.mk A40
 clear A40
 by_cases c5 : t369 = true
 ·subst c5
  have H1 : (some false) = some r := by rw [if_pos rfl] at H; exact H
  clear H
  have H := H1
  clear H1
  obtain rfl := si_ H
  go_enter Try.func201, Try.ntmps201
  go_wp2_with (first | (refine bx_ 4 #[.int .i64 a1_0, .int .i64 a1_1, .int .i64 a1_2] 39 ?_; intro gb367 hg w6 hbox hb; have BK367 := Aside0.mk (hbox); have GW367 := bs_ HB hg; have GE367 := bs_ HB hg; replace HB := bt_ HB hb; clear hb hbox hg) | (refine bx_ 5 #[.int .i64 a2_0, .int .i64 a2_1, .int .i64 a2_2] 39 ?_; intro gb368 hg w7 hbox hb; have BK368 := Aside0.mk (hbox); have GW368 := bs_ HB hg; have GE368 := bs_ HB hg; have NB367_368 := bm_ BK367 hg; have NB368_367 := bn_ BK367 hg; replace BK367 := bb_ BK367 hb; replace HB := bt_ HB hb; clear hb hbox hg; have hnb8 := NB367_368.out; have hnc8 := NB368_367.out; obtain ⟨hcz9_0, hcz9_1, hcz9_2, hfz9_0, hfz9_1, hfz9_2⟩ := ch3_ BK367; obtain ⟨hcz10_0, hcz10_1, hcz10_2, hfz10_0, hfz10_1, hfz10_2⟩ := ch3_ BK368) | (refine ge_ 10 Try.func200 #[.int .i64 a0, .agg #[.int .i64 a1_0, .int .i64 a1_1, .int .i64 a1_2], .agg #[.int .i64 a2_0, .int .i64 a2_1, .int .i64 a2_2]] ?_; (with_reducible refine (impl_holds.calls k a0 a1_0 a1_1 a1_2 a2_0 a2_1 a2_2 true _ A4.out).mono ?_); rintro e w11 ⟨rfl, hb⟩; refine ⟨_, rfl, ?_⟩; replace BK367 := bb_ BK367 hb; replace BK368 := bb_ BK368 hb; replace HB := bt_ HB hb; (try clear hb); (try clear hb2); (try clear hk); (try clear hi)))
  go_ret
  exact ⟨es_, (bw_ HB).out⟩
 ·replace c5 := Bool.eq_false_iff.mpr c5
  subst c5
  have H1 : ((impl_holds.f k a0 a2_0 a2_1 a2_2 a1_0 a1_1 a1_2).bind fun t370 => (some (!t370))) = some r := by rw [if_neg (show ¬ (false = true) by decide)] at H; exact H
  clear H
  have H := H1
  clear H1
  replace H := ob_ H
  obtain ⟨t370, A120, H⟩ := H
  have A12 := Aside0.mk A120
  clear A120
  obtain rfl := si_ H
  go_enter Try.func201, Try.ntmps201
  go_wp2_with (first | (refine bx_ 4 #[.int .i64 a1_0, .int .i64 a1_1, .int .i64 a1_2] 39 ?_; intro gb367 hg w13 hbox hb; have BK367 := Aside0.mk (hbox); have GW367 := bs_ HB hg; have GE367 := bs_ HB hg; replace HB := bt_ HB hb; clear hb hbox hg) | (refine bx_ 5 #[.int .i64 a2_0, .int .i64 a2_1, .int .i64 a2_2] 39 ?_; intro gb368 hg w14 hbox hb; have BK368 := Aside0.mk (hbox); have GW368 := bs_ HB hg; have GE368 := bs_ HB hg; have NB367_368 := bm_ BK367 hg; have NB368_367 := bn_ BK367 hg; replace BK367 := bb_ BK367 hb; replace HB := bt_ HB hb; clear hb hbox hg; have hnb15 := NB367_368.out; have hnc15 := NB368_367.out; obtain ⟨hcz16_0, hcz16_1, hcz16_2, hfz16_0, hfz16_1, hfz16_2⟩ := ch3_ BK367; obtain ⟨hcz17_0, hcz17_1, hcz17_2, hfz17_0, hfz17_1, hfz17_2⟩ := ch3_ BK368) | (refine ge_ 10 Try.func200 #[.int .i64 a0, .agg #[.int .i64 a1_0, .int .i64 a1_1, .int .i64 a1_2], .agg #[.int .i64 a2_0, .int .i64 a2_1, .int .i64 a2_2]] ?_; (with_reducible refine (impl_holds.calls k a0 a1_0 a1_1 a1_2 a2_0 a2_1 a2_2 false _ A4.out).mono ?_); rintro e w18 ⟨rfl, hb⟩; refine ⟨_, rfl, ?_⟩; replace BK367 := bb_ BK367 hb; replace BK368 := bb_ BK368 hb; replace HB := bt_ HB hb; (try clear hb); (try clear hb2); (try clear hk); (try clear hi); obtain ⟨hcz19_0, hcz19_1, hcz19_2, hfz19_0, hfz19_1, hfz19_2⟩ := ch3_ BK368; obtain ⟨hcz20_0, hcz20_1, hcz20_2, hfz20_0, hfz20_1, hfz20_2⟩ := ch3_ BK367) | (go_at_call 200; (with_reducible refine (impl_holds.calls k a0 a2_0 a2_1 a2_2 a1_0 a1_1 a1_2 t370 _ A12.out).mono ?_); rintro e w21 ⟨rfl, hb⟩; replace BK367 := bb_ BK367 hb; replace BK368 := bb_ BK368 hb; replace HB := bt_ HB hb; (try clear hb); (try clear hb2); (try clear hk); (try clear hi)))
  go_ret
  exact ⟨es_, (bw_ HB).out⟩
/-! ### impl_apartSides: function 194 -/
def impl_apartSides.j0 : Nat → Int → Bool → Int → Int → Int → Bool → Int → Int → Int → Bool → Option (Bool)
 | 0, _, _, _, _, _, _, _, _, _, _ => none
 | k + 1, x0, x7, x372000, x372001, x372002, x372003, x373000, x373001, x373002, x373003 => if x7 = true then (some false) else (if x372003 = true then ((impl_holds.f k x0 x372000 x372001 x372002 x373000 x373001 x373002).bind fun t373 => (some t373)) else (if x373003 = true then ((impl_holds.f k x0 x373000 x373001 x373002 x372000 x372001 x372002).bind fun t374 => (some t374)) else ((impl_apart.f k x0 x372000 x372001 x372002 x373000 x373001 x373002).bind fun t375 => (some t375))))
def impl_apartSides.f (k : Nat) (a0 : Int) (a1_0 : Int) (a1_1 : Int) (a1_2 : Int) (a1_3 : Bool) (a2_0 : Int) (a2_1 : Int) (a2_2 : Int) (a2_3 : Bool) : Option (Bool) := if a1_3 = true then (impl_apartSides.j0 k a0 a2_3 a1_0 a1_1 a1_2 a1_3 a2_0 a2_1 a2_2 a2_3) else (impl_apartSides.j0 k a0 false a1_0 a1_1 a1_2 a1_3 a2_0 a2_1 a2_2 a2_3)
theorem impl_apartSides.calls (k : Nat) (a0 : Int) (a1_0 : Int) (a1_1 : Int) (a1_2 : Int) (a1_3 : Bool) (a2_0 : Int) (a2_1 : Int) (a2_2 : Int) (a2_3 : Bool) (r : Bool) (w : World) (h : impl_apartSides.f k a0 a1_0 a1_1 a1_2 a1_3 a2_0 a2_1 a2_2 a2_3 = some r) :
  Calls Try.prog 194 #[.int .i64 a0, .agg #[.int .i64 a1_0, .int .i64 a1_1, .int .i64 a1_2, .bool a1_3], .agg #[.int .i64 a2_0, .int .i64 a2_1, .int .i64 a2_2, .bool a2_3]] w fun e w' => e = .returned (.bool r) ∧ Below w.heap.size w w' := by
 have hu59 := Try.underlying59
 have hu39 := Try.underlying39
 have HB := Aside0.mk (Below.refl w.heap.size w)
 have H : (if a1_3 = true then (impl_apartSides.j0 k a0 a2_3 a1_0 a1_1 a1_2 a1_3 a2_0 a2_1 a2_2 a2_3) else (impl_apartSides.j0 k a0 false a1_0 a1_1 a1_2 a1_3 a2_0 a2_1 a2_2 a2_3)) = some r := h
 clear h
 have HC4 := Aside0.mk H
 clear H
 go_enter Try.func194, Try.ntmps194
 go_upto_region 1 with (first | (refine bx_ 4 #[.int .i64 a1_0, .int .i64 a1_1, .int .i64 a1_2, .bool a1_3] 59 ?_; intro gb371 hg w5 hbox hb; have BK371 := Aside0.mk (hbox); have GW371 := bs_ HB hg; have GE371 := bs_ HB hg; replace HB := bt_ HB hb; clear hb hbox hg) | (refine bx_ 5 #[.int .i64 a2_0, .int .i64 a2_1, .int .i64 a2_2, .bool a2_3] 59 ?_; intro gb372 hg w6 hbox hb; have BK372 := Aside0.mk (hbox); have GW372 := bs_ HB hg; have GE372 := bs_ HB hg; have NB371_372 := bm_ BK371 hg; have NB372_371 := bn_ BK371 hg; replace BK371 := bb_ BK371 hb; replace HB := bt_ HB hb; clear hb hbox hg))
 (try simp only [Act.put, lstS, lstZ, lstC])
 go_cut [7] (fun v7 wc => ∃ (kq : Nat) (x7_3 : Bool), v7 = .bool x7_3 ∧ Aside0 (impl_apartSides.j0 kq a0 x7_3 a1_0 a1_1 a1_2 a1_3 a2_0 a2_1 a2_2 a2_3 = some r) ∧ Aside0 (kq ≤ k) ∧ Aside0 (wc.heap[gb371]? = some (.cells #[.int .i64 a1_0, .int .i64 a1_1, .int .i64 a1_2, .bool a1_3] 59 (0, 0))) ∧ Aside0 (wc.heap[gb372]? = some (.cells #[.int .i64 a2_0, .int .i64 a2_1, .int .i64 a2_2, .bool a2_3] 59 (0, 0))) ∧ Aside0 (Below w.heap.size w wc))
 case first =>
  have H := HC4.out
  clear HC4
  by_cases c7 : a1_3 = true
  ·subst c7
   have H1 : (impl_apartSides.j0 k a0 a2_3 a1_0 a1_1 a1_2 true a2_0 a2_1 a2_2 a2_3) = some r := by rw [if_pos rfl] at H; exact H
   clear H
   have H := H1
   clear H1
   have H' := Aside0.mk H
   clear H
   have hnb8 := NB371_372.out
   have hnc8 := NB372_371.out
   obtain ⟨hcz9_0, hcz9_1, hcz9_2, hcz9_3, hfz9_0, hfz9_1, hfz9_2, hfz9_3⟩ := ch4_ BK371
   obtain ⟨hcz10_0, hcz10_1, hcz10_2, hcz10_3, hfz10_0, hfz10_1, hfz10_2, hfz10_3⟩ := ch4_ BK372
   go_wp2
   go_meet
   case rel => exact ⟨_, (a2_3), en_, H', ⟨by first | omega | exact Nat.le_refl _⟩, bl_ BK371, bl_ BK372, bw_ HB⟩
  ·replace c7 := Bool.eq_false_iff.mpr c7
   subst c7
   have H1 : (impl_apartSides.j0 k a0 false a1_0 a1_1 a1_2 false a2_0 a2_1 a2_2 a2_3) = some r := by rw [if_neg (show ¬ (false = true) by decide)] at H; exact H
   clear H
   have H := H1
   clear H1
   have H' := Aside0.mk H
   clear H
   have hnb11 := NB371_372.out
   have hnc11 := NB372_371.out
   obtain ⟨hcz12_0, hcz12_1, hcz12_2, hcz12_3, hfz12_0, hfz12_1, hfz12_2, hfz12_3⟩ := ch4_ BK371
   go_wp2
   go_meet
   case rel => exact ⟨_, (false), en_, H', ⟨by first | omega | exact Nat.le_refl _⟩, bl_ BK371, bl_ BK372, bw_ HB⟩
 case rest =>
  clear HC4
  try clear c1
  try clear p2
  try clear c7
  try clear c8
  try clear c11
  try clear hcz10_0 hcz10_1 hcz10_2 hcz10_3
  try clear hcz12_0 hcz12_1 hcz12_2 hcz12_3
  try clear hcz9_0 hcz9_1 hcz9_2 hcz9_3
  try clear hfz10_0 hfz10_1 hfz10_2 hfz10_3
  try clear hfz12_0 hfz12_1 hfz12_2 hfz12_3
  try clear hfz9_0 hfz9_1 hfz9_2 hfz9_3
  obtain ⟨kq, x7_3, rfl, HA, HJ3, BK371, BK372, HB⟩ := hcut
  cases kq with
  | zero => exact absurd HA.out (by simp [impl_apartSides.j0])
  | succ kj3 =>
   have H := HA.out
   clear HA
   simp only [impl_apartSides.j0] at H
   by_cases c13 : x7_3 = true
   ·subst c13
    have H1 : (some false) = some r := by rw [if_pos rfl] at H; exact H
    clear H
    have H := H1
    clear H1
    obtain rfl := si_ H
    go_wp2
    go_ret
    exact ⟨es_, (bw_ HB).out⟩
   ·replace c13 := Bool.eq_false_iff.mpr c13
    subst c13
    have H1 : (if a1_3 = true then ((impl_holds.f kj3 a0 a1_0 a1_1 a1_2 a2_0 a2_1 a2_2).bind fun t373 => (some t373)) else (if a2_3 = true then ((impl_holds.f kj3 a0 a2_0 a2_1 a2_2 a1_0 a1_1 a1_2).bind fun t374 => (some t374)) else ((impl_apart.f kj3 a0 a1_0 a1_1 a1_2 a2_0 a2_1 a2_2).bind fun t375 => (some t375)))) = some r := by rw [if_neg (show ¬ (false = true) by decide)] at H; exact H
    clear H
    have H := H1
    clear H1
    by_cases c14 : a1_3 = true
    ·subst c14
     have H1 : ((impl_holds.f kj3 a0 a1_0 a1_1 a1_2 a2_0 a2_1 a2_2).bind fun t373 => (some t373)) = some r := by rw [if_pos rfl] at H; exact H
     clear H
     have H := H1
     clear H1
     replace H := ob_ H
     obtain ⟨t373, A150, H⟩ := H
     have A15 := Aside0.mk A150
     clear A150
     obtain rfl := si_ H
     have hnb16 := NB371_372.out
     have hnc16 := NB372_371.out
     obtain ⟨hcz17_0, hcz17_1, hcz17_2, hcz17_3, hfz17_0, hfz17_1, hfz17_2, hfz17_3⟩ := ch4_ BK371
     obtain ⟨hcz18_0, hcz18_1, hcz18_2, hcz18_3, hfz18_0, hfz18_1, hfz18_2, hfz18_3⟩ := ch4_ BK372
     go_wp2_with (first | (refine ge_ 22 Try.func200 #[.int .i64 a0, .agg #[.int .i64 a1_0, .int .i64 a1_1, .int .i64 a1_2], .agg #[.int .i64 a2_0, .int .i64 a2_1, .int .i64 a2_2]] ?_; (with_reducible refine (impl_holds.calls kj3 a0 a1_0 a1_1 a1_2 a2_0 a2_1 a2_2 t373 _ A15.out).mono ?_); rintro e w19 ⟨rfl, hb⟩; refine ⟨_, rfl, ?_⟩; replace BK371 := bb_ BK371 hb; replace BK372 := bb_ BK372 hb; replace HB := bt_ HB hb; (try clear hb); (try clear hb2); (try clear hk); (try clear hi)))
     go_ret
     exact ⟨es_, (bw_ HB).out⟩
    ·replace c14 := Bool.eq_false_iff.mpr c14
     subst c14
     have H1 : (if a2_3 = true then ((impl_holds.f kj3 a0 a2_0 a2_1 a2_2 a1_0 a1_1 a1_2).bind fun t374 => (some t374)) else ((impl_apart.f kj3 a0 a1_0 a1_1 a1_2 a2_0 a2_1 a2_2).bind fun t375 => (some t375))) = some r := by rw [if_neg (show ¬ (false = true) by decide)] at H; exact H
     clear H
     have H := H1
     clear H1
     by_cases c20 : a2_3 = true
     ·subst c20
      have H1 : ((impl_holds.f kj3 a0 a2_0 a2_1 a2_2 a1_0 a1_1 a1_2).bind fun t374 => (some t374)) = some r := by rw [if_pos rfl] at H; exact H
      clear H
      have H := H1
      clear H1
      replace H := ob_ H
      obtain ⟨t374, A210, H⟩ := H
      have A21 := Aside0.mk A210
      clear A210
      obtain rfl := si_ H
      have hnb22 := NB371_372.out
      have hnc22 := NB372_371.out
      obtain ⟨hcz23_0, hcz23_1, hcz23_2, hcz23_3, hfz23_0, hfz23_1, hfz23_2, hfz23_3⟩ := ch4_ BK371
      obtain ⟨hcz24_0, hcz24_1, hcz24_2, hcz24_3, hfz24_0, hfz24_1, hfz24_2, hfz24_3⟩ := ch4_ BK372
      go_wp2_with (first | (refine ge_ 31 Try.func200 #[.int .i64 a0, .agg #[.int .i64 a2_0, .int .i64 a2_1, .int .i64 a2_2], .agg #[.int .i64 a1_0, .int .i64 a1_1, .int .i64 a1_2]] ?_; (with_reducible refine (impl_holds.calls kj3 a0 a2_0 a2_1 a2_2 a1_0 a1_1 a1_2 t374 _ A21.out).mono ?_); rintro e w25 ⟨rfl, hb⟩; refine ⟨_, rfl, ?_⟩; replace BK371 := bb_ BK371 hb; replace BK372 := bb_ BK372 hb; replace HB := bt_ HB hb; (try clear hb); (try clear hb2); (try clear hk); (try clear hi)))
      go_ret
      exact ⟨es_, (bw_ HB).out⟩
     ·replace c20 := Bool.eq_false_iff.mpr c20
      subst c20
      have H1 : ((impl_apart.f kj3 a0 a1_0 a1_1 a1_2 a2_0 a2_1 a2_2).bind fun t375 => (some t375)) = some r := by rw [if_neg (show ¬ (false = true) by decide)] at H; exact H
      clear H
      have H := H1
      clear H1
      replace H := ob_ H
      obtain ⟨t375, A260, H⟩ := H
      have A26 := Aside0.mk A260
      clear A260
      obtain rfl := si_ H
      have hnb27 := NB371_372.out
      have hnc27 := NB372_371.out
      obtain ⟨hcz28_0, hcz28_1, hcz28_2, hcz28_3, hfz28_0, hfz28_1, hfz28_2, hfz28_3⟩ := ch4_ BK371
      obtain ⟨hcz29_0, hcz29_1, hcz29_2, hcz29_3, hfz29_0, hfz29_1, hfz29_2, hfz29_3⟩ := ch4_ BK372
      go_wp2_with (first | (refine ge_ 37 Try.func201 #[.int .i64 a0, .agg #[.int .i64 a1_0, .int .i64 a1_1, .int .i64 a1_2], .agg #[.int .i64 a2_0, .int .i64 a2_1, .int .i64 a2_2]] ?_; (with_reducible refine (impl_apart.calls kj3 a0 a1_0 a1_1 a1_2 a2_0 a2_1 a2_2 t375 _ A26.out).mono ?_); rintro e w30 ⟨rfl, hb⟩; refine ⟨_, rfl, ?_⟩; replace BK371 := bb_ BK371 hb; replace BK372 := bb_ BK372 hb; replace HB := bt_ HB hb; (try clear hb); (try clear hb2); (try clear hk); (try clear hi)))
      go_ret
      exact ⟨es_, (bw_ HB).out⟩
/-! ### impl_opposite: function 195 -/
def impl_opposite.f (a0_0 : Int) (a0_1 : Int) (a0_2 : Int) (a0_3 : Bool) : Option (Int × Int × Int × Bool) := some (a0_0, a0_1, a0_2, !a0_3)
theorem impl_opposite.calls (a0_0 : Int) (a0_1 : Int) (a0_2 : Int) (a0_3 : Bool) (r1 : Int) (r2 : Int) (r3 : Int) (r4 : Bool) (w : World) (h : impl_opposite.f a0_0 a0_1 a0_2 a0_3 = some (r1, r2, r3, r4)) :
  Calls Try.prog 195 #[.agg #[.int .i64 a0_0, .int .i64 a0_1, .int .i64 a0_2, .bool a0_3]] w fun e w' => e = .returned (.agg #[.int .i64 r1, .int .i64 r2, .int .i64 r3, .bool r4]) ∧ Below w.heap.size w w' := by
 have hu59 := Try.underlying59
 have hu39 := Try.underlying39
 have HB := Aside0.mk (Below.refl w.heap.size w)
 have H : (some (a0_0, a0_1, a0_2, !a0_3)) = some (r1, r2, r3, r4) := h
 clear h
 simp only [Option.some.injEq, Prod.mk.injEq] at H
 obtain ⟨rfl, rfl, rfl, rfl⟩ := H
 go_enter Try.func195, Try.ntmps195
 go_wp2_with (first | (refine bx_ 1 #[.int .i64 a0_0, .int .i64 a0_1, .int .i64 a0_2, .bool a0_3] 59 ?_; intro gb376 hg w2 hbox hb; have BK376 := Aside0.mk (hbox); have GW376 := bs_ HB hg; have GE376 := bs_ HB hg; replace HB := bt_ HB hb; clear hb hbox hg) | (refine bx_ 2 #[.int .i64 0, .int .i64 0, .int .i64 0, .bool false] 59 ?_; intro gb377 hg w3 hbox hb; have BK377 := Aside0.mk (hbox); have GW377 := bs_ HB hg; have GE377 := bs_ HB hg; have NB376_377 := bm_ BK376 hg; have NB377_376 := bn_ BK376 hg; replace BK376 := bb_ BK376 hb; replace HB := bt_ HB hb; clear hb hbox hg; have hnb4 := NB376_377.out; have hnc4 := NB377_376.out; obtain ⟨hcz5_0, hcz5_1, hcz5_2, hcz5_3, hfz5_0, hfz5_1, hfz5_2, hfz5_3⟩ := ch4_ BK376; obtain ⟨hcz6_0, hcz6_1, hcz6_2, hcz6_3, hfz6_0, hfz6_1, hfz6_2, hfz6_3⟩ := ch4_ BK377))
 refine bodyPost_ret (results_cell_row rfl _ _ gb377 59 #[.int .i64 a0_0, .int .i64 a0_1, .int .i64 a0_2, .bool (!a0_3)] (0, 0) _ rfl (bp_ BK377).out Try.underlying59 rfl (by kernel_rfl)) rfl ?_
 exact ⟨es_, (bw_ HB).out⟩
end Go.Proofs.Ytbilincmcnnonaa.QS
