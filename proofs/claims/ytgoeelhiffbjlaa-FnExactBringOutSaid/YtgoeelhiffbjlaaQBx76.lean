import Derived.Test.YtgoeelhiffbjlaaQBx71
namespace Go.Proofs.Ytgoeelhiffbjlaa.QB
set_option maxHeartbeats 8000000
set_option maxRecDepth 100000
open Go.RowKit YtgoeelhiffbjlaaW.PrintWords YtgoeelhiffbjlaaW.PrintLast YtgoeelhiffbjlaaW.PrintMore
attribute [local go_sem] isSome_setCell max2_int min2_int max_two min_two max_three min_three max_four min_four
set_option linter.unusedVariables false
set_option linter.unusedSimpArgs false
def impl_freeCode.j0 : Nat → Int → List (S46) → List (S150) → Bool → Option (Bool × Int)
 | 0, _, _, _, _ => none
 | k + 1, x0, x1, x2, x8 => if x8 = true then (some (false, 1)) else (if (x1.length : Int) < 1 then (some (false, 2)) else (if (x1.length : Int) > 4 then (some (false, 2)) else (if (x2.length : Int) = (wrap64 (2 * (x1.length : Int))) then ((impl_isFree.f k x0 x1 x2).bind fun bt439 => (some (bt439.1, bt439.2))) else (some (false, 2)))))
def impl_freeCode.f (k : Nat) (a0 : Int) (l1 : List (S46)) (l2 : List (S150)) : Option (Bool × Int) := (impl_areSides.f k a0 l2).bind fun t437 => (if t437 = true then ((impl_areMatrices.f k l1).bind fun t438 => (impl_freeCode.j0 k a0 l1 l2 (!t438))) else (impl_freeCode.j0 k a0 l1 l2 true))
theorem impl_freeCode.calls (k : Nat) (a0 : Int) (A1 : Option Addr) (c1 : Nat) (l1 : List (S46)) (A2 : Option Addr) (c2 : Nat) (l2 : List (S150)) (r1 : Bool) (r2 : Int) (w : World) (hr1 : Kd.C k46 w A1 l1.length l1) (hc1 : l1.length ≤ c1) (hr2 : Kd.C k150 w A2 l2.length l2) (hc2 : l2.length ≤ c2) (h : impl_freeCode.f k a0 l1 l2 = some (r1, r2)) :
  Calls Try.prog 141 #[.int .i64 a0, .slice A1 l1.length c1, .slice A2 l2.length c2] w fun e w' => e = .returned (.tuple #[.bool r1, .int .i64 r2]) ∧ Below w.heap.size w w' := by
 have HR1 := Aside0.mk hr1
 have HC1 := Aside0.mk hc1
 clear hr1 hc1
 have HR2 := Aside0.mk hr2
 have HC2 := Aside0.mk hc2
 clear hr2 hc2
 have HB := Aside0.mk (Below.refl w.heap.size w)
 unfold impl_freeCode.f at h
 have H := h
 clear h
 have HC4 := Aside0.mk H
 clear H
 go_enter Try.func141, Try.ntmps141
 go_upto_region 1 with (fail)
 go_cut [8] (fun v8 wc => ∃ (kq : Nat) (x8_3 : Bool), v8 = .bool x8_3 ∧ Aside0 (impl_freeCode.j0 kq a0 l1 l2 x8_3 = some (r1, r2)) ∧ Aside0 (kq ≤ k) ∧ Aside0 (Below w.heap.size w wc))
 case first =>
  have H := HC4.out
  clear HC4
  replace H := oc_ H
  obtain ⟨t437, A5, H⟩ := H
  replace H := ib_ H
  rcases H with ⟨rfl, H⟩ | ⟨rfl, H⟩
  ·replace H := oc_ H
   obtain ⟨t438, A7, H⟩ := H
   have H' := Aside0.mk H
   clear H
   go_wp2_with (first | ((refine gc_ 178 ?_); refine ge_ 11 Try.func178 #[.int .i64 a0, .slice A2 l2.length c2] ?_; (with_reducible refine (impl_areSides.calls k a0 _ _ l2 true _ ?side1 ?side2 A5.out).mono ?_); (case side1 => exact ca_ (Kd.C_below HR2.out (bw_ HB).out)); (case side2 => exact HC2.out); rintro e w8 ⟨rfl, hb⟩; refine ⟨_, rfl, ?_⟩; replace HB := bt_ HB hb; (try clear hb)) | (go_at_call 99; (with_reducible refine (impl_areMatrices.calls k _ _ l1 t438 _ ?side1 ?side2 A7.out).mono ?_); (case side1 => exact ca_ (Kd.C_below HR1.out HB.out)); (case side2 => exact HC1.out); rintro e w9 ⟨rfl, hb⟩; replace HB := bt_ HB hb; (try clear hb)))
   go_meet
   case rel => exact ⟨_, (!t438), en_, H', ⟨by first | omega | exact Nat.le_refl _⟩, bw_ HB⟩
  have H' := Aside0.mk H
  clear H
  go_wp2_with (first | ((refine gc_ 178 ?_); refine ge_ 11 Try.func178 #[.int .i64 a0, .slice A2 l2.length c2] ?_; (with_reducible refine (impl_areSides.calls k a0 _ _ l2 false _ ?side1 ?side2 A5.out).mono ?_); (case side1 => exact ca_ (Kd.C_below HR2.out (bw_ HB).out)); (case side2 => exact HC2.out); rintro e w10 ⟨rfl, hb⟩; refine ⟨_, rfl, ?_⟩; replace HB := bt_ HB hb; (try clear hb)))
  go_meet
  case rel => exact ⟨_, (true), en_, H', ⟨by first | omega | exact Nat.le_refl _⟩, bw_ HB⟩
 clear HC4
 try clear c1
 try clear c2
 obtain ⟨kq, x8_3, rfl, HA, HJ3, HB⟩ := hcut
 cases kq with
 | zero => exact absurd HA.out (by simp [impl_freeCode.j0])
 | succ kj3 =>
  have H := HA.out
  clear HA
  simp only [impl_freeCode.j0] at H
  replace H := ib_ H
  rcases H with ⟨rfl, H⟩ | ⟨rfl, H⟩
  ·simp only [Option.some.injEq, Prod.mk.injEq] at H
   obtain ⟨rfl, rfl⟩ := H
   go_wp2
   go_ret2
   exact ⟨es_, (bw_ HB).out⟩
  by_cases c12 : (l1.length : Int) < 1
  ·rw [if_pos c12] at H
   have c12b0 : decide ((l1.length : Int) < 1) = true := decide_eq_true c12
   have c12b1 : decide (l1.length < 1) = true := decide_eq_true (by omega)
   clear c12
   simp only [Option.some.injEq, Prod.mk.injEq] at H
   obtain ⟨rfl, rfl⟩ := H
   go_wp2
   go_ret2
   exact ⟨es_, (bw_ HB).out⟩
  rw [if_neg c12] at H
  have c12b0 : decide ((l1.length : Int) < 1) = false := decide_eq_false c12
  have c12b1 : decide (l1.length < 1) = false := decide_eq_false (by omega)
  clear c12
  by_cases c13 : (l1.length : Int) > 4
  ·rw [if_pos c13] at H
   have c13b0 : decide (4 < (l1.length : Int)) = true := decide_eq_true c13
   have c13b1 : decide (4 < l1.length) = true := decide_eq_true (by omega)
   clear c13
   simp only [Option.some.injEq, Prod.mk.injEq] at H
   obtain ⟨rfl, rfl⟩ := H
   go_wp2
   go_ret2
   exact ⟨es_, (bw_ HB).out⟩
  rw [if_neg c13] at H
  have c13b0 : decide (4 < (l1.length : Int)) = false := decide_eq_false c13
  have c13b1 : decide (4 < l1.length) = false := decide_eq_false (by omega)
  clear c13
  replace H := ie_ H
  rcases H with ⟨c14b0, c14b1, H⟩ | ⟨c14, c14b0, c14b1, H⟩
  ·replace H := oc_ H
   obtain ⟨⟨t439, t440⟩, A15, H⟩ := H
   simp only [Option.some.injEq, Prod.mk.injEq] at H
   obtain ⟨rfl, rfl⟩ := H
   go_wp2_with (first | ((refine gc_ 179 ?_); refine ge_ 38 Try.func179 #[.int .i64 a0, .slice A1 l1.length c1, .slice A2 l2.length c2] ?_; (with_reducible refine (impl_isFree.calls kj3 a0 _ _ l1 _ _ l2 t439 t440 _ ?side1 ?side2 ?side3 ?side4 A15.out).mono ?_); (case side1 => exact ca_ (Kd.C_below HR1.out HB.out)); (case side2 => exact HC1.out); (case side3 => exact ca_ (Kd.C_below HR2.out HB.out)); (case side4 => exact HC2.out); rintro e w16 ⟨rfl, hb⟩; refine ⟨_, rfl, ?_⟩; replace HB := bt_ HB hb; (try clear hb)))
   go_ret2
   exact ⟨es_, (bw_ HB).out⟩
  simp only [Option.some.injEq, Prod.mk.injEq] at H
  obtain ⟨rfl, rfl⟩ := H
  go_wp2
  go_ret2
  exact ⟨es_, (bw_ HB).out⟩
def impl_nearness.f (k : Nat) (a0 a1_0 a1_1 a1_2 a2 a3 : Int) : Option (Int) := (impl_power.f k a0 6).bind fun t442 => ((impl_mark.f k a0 a1_0 a1_1 a1_2).bind fun t443 => (if (wrap64 ((wrap64 (a2 * t442)) - (wrap64 (t443 * a3)))) = 0 then (some 1000) else ((impl_valuation.f k a0 (wrap64 ((wrap64 (a2 * t442)) - (wrap64 (t443 * a3))))).bind fun t444 => ((impl_valuation.f k a0 a3).bind fun t445 => (some (wrap64 ((wrap64 (t444 - t445)) - 6)))))))
def impl_nearness.T1 : Bool × List (List Nat × List Nat) := (true, [([], []), ([], []), ([1], [1]), ([0, 2], [0, 2]), ([], []), ([], []), ([4, 5, 2], [4, 5]), ([], []), ([6, 7], [6, 7]), ([3, 8], [3, 8]), ([9, 6, 0, 1, 2, 3, 4, 5, 6, 7, 8, 9], [9])])
def impl_nearness.B1 : List Nat := [0, 0, 2, 7, 0, 0, 54, 0, 246, 511, 1023]
theorem impl_nearness.tab1 : rtab .any (opsOf Try.f208 1) = impl_nearness.T1 := by kernel_rfl
theorem impl_nearness.bits1 : waitsOk impl_nearness.T1.2 impl_nearness.B1 = true := by kernel_rfl
theorem impl_nearness.calls (k : Nat) (a0 a1_0 a1_1 a1_2 a2 a3 r : Int) (w : World) (h : impl_nearness.f k a0 a1_0 a1_1 a1_2 a2 a3 = some r) :
  Calls Try.prog 208 #[.int .i64 a0, .agg #[.int .i64 a1_0, .int .i64 a1_1, .int .i64 a1_2], .int .i64 a2, .int .i64 a3] w fun e w' => e = .returned (.int .i64 r) ∧ Below w.heap.size w w' := by
 have hu25 := Try.underlying25
 have HB := Aside0.mk (Below.refl w.heap.size w)
 unfold impl_nearness.f at h
 have H := h
 clear h
 replace H := oc_ H
 obtain ⟨t442, A5, H⟩ := H
 replace H := oc_ H
 obtain ⟨t443, A6, H⟩ := H
 replace H := ie_ H
 rcases H with ⟨c7b0, c7b1, H⟩ | ⟨c7, c7b0, c7b1, H⟩
 ·obtain rfl := si_ H
  go_enter Try.func208, Try.ntmps208
  try go_wp2_with (first | ((refine gd_ 5 ?_); refine by_ 5 #[.int .i64 a1_0, .int .i64 a1_1, .int .i64 a1_2] 25 HB ?_; intro gb441 hg w8 BK441 hb GW441 HB_; replace HB := HB_; clear hb hg))
  replace BK441 := bd_ BK441
  replace HB := be_ HB
  refine start_ (n := 11) (S := fun w' => w'.cell? ⟨gb441, 0, none⟩ = some (.int .i64 a1_0) ∧ w'.cell? ⟨gb441, 1, none⟩ = some (.int .i64 a1_1) ∧ w'.cell? ⟨gb441, 2, none⟩ = some (.int .i64 a1_2)) (ds := []) (bv_ 11 0) (by kernel_rfl) rfl rfl ⟨cz_ BK441 0, cz_ BK441 1, cz_ BK441 2⟩ (fun hHeld => ?_); refine with_tabW impl_nearness.tab1 impl_nearness.bits1 (fun HT_ HW_ => ?_)
  generalize w8.drew = w9 at BK441 HB hHeld ⊢
  refine px_ HT_ 0 10 1 ?_
  refine px_ HT_ 1 11 3 ?_
  refine px_ HT_ 4 14 19 ?_
  refine px_ HT_ 7 17 147 ?_
  refine ta_ HT_ HW_ 5 (some 15) (bv_ 11 179) hHeld ?_ (hy := by rintro w' ⟨s0, s1, s2⟩; go_simp; with_reducible rfl)
  refine on_ HT_ 2 (some 12) (bv_ 11 183) (fun K hK => ?_)
  refine gs_ Try.func162 #[.int .i64 a0, .int .i64 6] ?_
  with_reducible refine (impl_power.calls k a0 6 t442 _ A5.out).mono ?_
  rintro e w' ⟨rfl, ⟨nd, rfl⟩⟩
  refine ⟨_, rfl, ?_⟩
  refine hK.out _ _ ⟨cz_ BK441 0, cz_ BK441 1, cz_ BK441 2⟩ (fun hHeld => ?_)
  clear hK K
  refine nm_ (some 12) ?_
  refine px_ HT_ 3 13 191 ?_
  refine on_ HT_ 6 (some 16) (bv_ 11 255) (fun K hK => ?_)
  refine gs_ Try.func163 #[.int .i64 a0, .agg #[.int .i64 a1_0, .int .i64 a1_1, .int .i64 a1_2]] ?_
  with_reducible refine (impl_mark.calls k a0 a1_0 a1_1 a1_2 t443 _ A6.out).mono ?_
  rintro e w10 ⟨rfl, hb⟩
  refine ⟨_, rfl, ?_⟩
  replace BK441 := bb_ BK441 hb
  replace HB := bt_ HB hb
  try clear hb
  refine hK.out _ _ ⟨cz_ BK441 0, cz_ BK441 1, cz_ BK441 2⟩ (fun hHeld => ?_)
  clear hK K
  refine nm_ (some 16) ?_
  refine px_ HT_ 8 18 511 ?_
  refine px_ HT_ 9 19 1023 ?_
  refine px_ HT_ 10 9 2047 ?_
  refine done_ (done_of HT_.out (by kernel_rfl)) ?_
  try go_wp2
  go_ret
  exact ⟨es_, (bw_ HB).out⟩
 replace H := oc_ H
 obtain ⟨t444, A11, H⟩ := H
 replace H := oc_ H
 obtain ⟨t445, A12, H⟩ := H
 obtain rfl := si_ H
 go_enter Try.func208, Try.ntmps208
 try go_wp2_with (first | ((refine gd_ 5 ?_); refine by_ 5 #[.int .i64 a1_0, .int .i64 a1_1, .int .i64 a1_2] 25 HB ?_; intro gb441 hg w13 BK441 hb GW441 HB_; replace HB := HB_; clear hb hg))
 replace BK441 := bd_ BK441
 replace HB := be_ HB
 refine start_ (n := 11) (S := fun w' => w'.cell? ⟨gb441, 0, none⟩ = some (.int .i64 a1_0) ∧ w'.cell? ⟨gb441, 1, none⟩ = some (.int .i64 a1_1) ∧ w'.cell? ⟨gb441, 2, none⟩ = some (.int .i64 a1_2)) (ds := []) (bv_ 11 0) (by kernel_rfl) rfl rfl ⟨cz_ BK441 0, cz_ BK441 1, cz_ BK441 2⟩ (fun hHeld => ?_); refine with_tabW impl_nearness.tab1 impl_nearness.bits1 (fun HT_ HW_ => ?_)
 generalize w13.drew = w14 at BK441 HB hHeld ⊢
 refine px_ HT_ 0 10 1 ?_
 refine px_ HT_ 1 11 3 ?_
 refine px_ HT_ 4 14 19 ?_
 refine px_ HT_ 7 17 147 ?_
 refine ta_ HT_ HW_ 5 (some 15) (bv_ 11 179) hHeld ?_ (hy := by rintro w' ⟨s0, s1, s2⟩; go_simp; with_reducible rfl)
 refine on_ HT_ 2 (some 12) (bv_ 11 183) (fun K hK => ?_)
 refine gs_ Try.func162 #[.int .i64 a0, .int .i64 6] ?_
 with_reducible refine (impl_power.calls k a0 6 t442 _ A5.out).mono ?_
 rintro e w' ⟨rfl, ⟨nd, rfl⟩⟩
 refine ⟨_, rfl, ?_⟩
 refine hK.out _ _ ⟨cz_ BK441 0, cz_ BK441 1, cz_ BK441 2⟩ (fun hHeld => ?_)
 clear hK K
 refine nm_ (some 12) ?_
 refine px_ HT_ 3 13 191 ?_
 refine on_ HT_ 6 (some 16) (bv_ 11 255) (fun K hK => ?_)
 refine gs_ Try.func163 #[.int .i64 a0, .agg #[.int .i64 a1_0, .int .i64 a1_1, .int .i64 a1_2]] ?_
 with_reducible refine (impl_mark.calls k a0 a1_0 a1_1 a1_2 t443 _ A6.out).mono ?_
 rintro e w15 ⟨rfl, hb⟩
 refine ⟨_, rfl, ?_⟩
 replace BK441 := bb_ BK441 hb
 replace HB := bt_ HB hb
 try clear hb
 refine hK.out _ _ ⟨cz_ BK441 0, cz_ BK441 1, cz_ BK441 2⟩ (fun hHeld => ?_)
 clear hK K
 refine nm_ (some 16) ?_
 refine px_ HT_ 8 18 511 ?_
 refine px_ HT_ 9 19 1023 ?_
 refine px_ HT_ 10 9 2047 ?_
 refine done_ (done_of HT_.out (by kernel_rfl)) ?_
 try go_wp2_with (first | ((refine gc_ 164 ?_); refine ge_ 24 Try.func164 #[.int .i64 a0, .int .i64 (wrap64 ((wrap64 (a2 * t442)) - (wrap64 (t443 * a3))))] ?_; (with_reducible refine (impl_valuation.calls k a0 (wrap64 ((wrap64 (a2 * t442)) - (wrap64 (t443 * a3)))) t444 _ A11.out).mono ?_); rintro e w' ⟨rfl, ⟨nd, rfl⟩⟩; refine ⟨_, rfl, ?_⟩) | ((refine gc_ 164 ?_); refine ge_ 27 Try.func164 #[.int .i64 a0, .int .i64 a3] ?_; (with_reducible refine (impl_valuation.calls k a0 a3 t445 _ A12.out).mono ?_); rintro e w' ⟨rfl, ⟨nd, rfl⟩⟩; refine ⟨_, rfl, ?_⟩))
 go_ret
 exact ⟨es_, (bw_ HB).out⟩
def impl_held.f (k : Nat) (a0 a1_0 a1_1 a1_2 a2_0 a2_1 : Int) : Option (Bool) := if a2_1 = 0 then (some false) else ((impl_nearness.f k a0 a1_0 a1_1 a1_2 a2_0 a2_1).bind fun t448 => (some (decide (t448 ≥ a1_0))))
def impl_held.T1 : Bool × List (List Nat × List Nat) := (true, [([], []), ([0], [0]), ([1], [1]), ([2], [2]), ([3], [3]), ([3], [3]), ([3], [3]), ([6, 3], [3, 6]), ([3], [3]), ([8, 3], [3, 8]), ([4, 5, 7, 9, 3, 3], [3, 4, 5, 7, 9]), ([3], [3]), ([11, 3], [3, 11]), ([10, 12, 3], [3, 10, 12]), ([3, 13], [3, 13]), ([14, 10, 0, 1, 2, 3, 4, 5, 6, 7, 8, 9, 10, 11, 12, 13, 14], [14])])
def impl_held.B1 : List Nat := [0, 1, 3, 7, 15, 15, 15, 79, 15, 271, 1023, 15, 2063, 8191, 16383, 32767]
theorem impl_held.tab1 : rtab .any (opsOf Try.f201 1) = impl_held.T1 := by kernel_rfl
theorem impl_held.bits1 : waitsOk impl_held.T1.2 impl_held.B1 = true := by kernel_rfl
theorem impl_held.calls (k : Nat) (a0 a1_0 a1_1 a1_2 a2_0 a2_1 : Int) (r : Bool) (w : World) (h : impl_held.f k a0 a1_0 a1_1 a1_2 a2_0 a2_1 = some r) :
  Calls Try.prog 201 #[.int .i64 a0, .agg #[.int .i64 a1_0, .int .i64 a1_1, .int .i64 a1_2], .agg #[.int .i64 a2_0, .int .i64 a2_1]] w fun e w' => e = .returned (.bool r) ∧ Below w.heap.size w w' := by
 have hu25 := Try.underlying25
 have hu74 := Try.underlying74
 have HB := Aside0.mk (Below.refl w.heap.size w)
 unfold impl_held.f at h
 have H := h
 clear h
 replace H := ie_ H
 rcases H with ⟨c4b0, c4b1, H⟩ | ⟨c4, c4b0, c4b1, H⟩
 ·obtain rfl := si_ H
  go_enter Try.func201, Try.ntmps201
  try go_wp2_with (first | ((refine gd_ 4 ?_); refine by_ 4 #[.int .i64 a1_0, .int .i64 a1_1, .int .i64 a1_2] 25 HB ?_; intro gb446 hg w5 BK446 hb GW446 HB_; replace HB := HB_; clear hb hg) | ((refine gd_ 5 ?_); refine by_ 5 #[.int .i64 a2_0, .int .i64 a2_1] 74 HB ?_; intro gb447 hg w6 BK447 hb GW447 HB_; have NB446_447 := bm_ BK446 hg; have NB447_446 := bn_ BK446 hg; replace BK446 := bb_ BK446 hb; replace HB := HB_; clear hb hg))
  replace BK446 := bd_ BK446
  replace BK447 := bd_ BK447
  replace HB := be_ HB
  refine start_ (n := 16) (S := fun w' => w'.cell? ⟨gb447, 0, none⟩ = some (.int .i64 a2_0) ∧ w'.cell? ⟨gb447, 1, none⟩ = some (.int .i64 a2_1)) (ds := []) (bv_ 16 0) (by kernel_rfl) rfl rfl ⟨cz_ BK447 0, cz_ BK447 1⟩ (fun hHeld => ?_); refine with_tabW impl_held.tab1 impl_held.bits1 (fun HT_ HW_ => ?_)
  generalize w6.drew = w7 at BK446 BK447 HB hHeld ⊢
  refine px_ HT_ 0 7 1 ?_
  refine ta_ HT_ HW_ 1 (some 8) (bv_ 16 3) hHeld ?_ (hy := by rintro w' ⟨s0, s1⟩; go_simp; with_reducible rfl)
  refine px_ HT_ 2 9 7 ?_
  refine px_ HT_ 3 10 15 ?_
  refine pv_ HT_ 4 (some 11) (bv_ 16 31) ?_
  refine pv_ HT_ 5 (some 12) (bv_ 16 63) ?_
  refine pv_ HT_ 6 (some 13) (bv_ 16 127) ?_
  refine pv_ HT_ 7 (some 14) (bv_ 16 255) ?_
  refine pv_ HT_ 8 (some 15) (bv_ 16 511) ?_
  refine pv_ HT_ 9 (some 16) (bv_ 16 1023) ?_
  refine pv_ HT_ 10 (some 17) (bv_ 16 2047) ?_
  refine pv_ HT_ 11 (some 18) (bv_ 16 4095) ?_
  refine pv_ HT_ 12 (some 19) (bv_ 16 8191) ?_
  refine pv_ HT_ 13 (some 20) (bv_ 16 16383) ?_
  refine px_ HT_ 14 21 32767 ?_
  refine px_ HT_ 15 6 65535 ?_
  refine done_ (done_of HT_.out (by kernel_rfl)) ?_
  try go_wp2
  go_ret
  exact ⟨es_, (bw_ HB).out⟩
 replace H := oc_ H
 obtain ⟨t448, A8, H⟩ := H
 obtain rfl := si_ H
 go_enter Try.func201, Try.ntmps201
 try go_wp2_with (first | ((refine gd_ 4 ?_); refine by_ 4 #[.int .i64 a1_0, .int .i64 a1_1, .int .i64 a1_2] 25 HB ?_; intro gb446 hg w9 BK446 hb GW446 HB_; replace HB := HB_; clear hb hg) | ((refine gd_ 5 ?_); refine by_ 5 #[.int .i64 a2_0, .int .i64 a2_1] 74 HB ?_; intro gb447 hg w10 BK447 hb GW447 HB_; have NB446_447 := bm_ BK446 hg; have NB447_446 := bn_ BK446 hg; replace BK446 := bb_ BK446 hb; replace HB := HB_; clear hb hg))
 replace BK446 := bd_ BK446
 replace BK447 := bd_ BK447
 replace HB := be_ HB
 refine start_ (n := 16) (S := fun w' => w'.cell? ⟨gb447, 0, none⟩ = some (.int .i64 a2_0) ∧ w'.cell? ⟨gb447, 1, none⟩ = some (.int .i64 a2_1) ∧ w'.cell? ⟨gb446, 0, none⟩ = some (.int .i64 a1_0) ∧ w'.cell? ⟨gb446, 1, none⟩ = some (.int .i64 a1_1) ∧ w'.cell? ⟨gb446, 2, none⟩ = some (.int .i64 a1_2)) (ds := []) (bv_ 16 0) (by kernel_rfl) rfl rfl ⟨cz_ BK447 0, cz_ BK447 1, cz_ BK446 0, cz_ BK446 1, cz_ BK446 2⟩ (fun hHeld => ?_); refine with_tabW impl_held.tab1 impl_held.bits1 (fun HT_ HW_ => ?_)
 generalize w10.drew = w11 at BK446 BK447 HB hHeld ⊢
 refine px_ HT_ 0 7 1 ?_
 refine ta_ HT_ HW_ 1 (some 8) (bv_ 16 3) hHeld ?_ (hy := by rintro w' ⟨s0, s1, s2, s3, s4⟩; go_simp; with_reducible rfl)
 refine px_ HT_ 2 9 7 ?_
 refine px_ HT_ 3 10 15 ?_
 refine px_ HT_ 4 11 31 ?_
 refine px_ HT_ 6 13 95 ?_
 refine px_ HT_ 8 15 351 ?_
 refine px_ HT_ 11 18 2399 ?_
 refine ta_ HT_ HW_ 5 (some 12) (bv_ 16 2431) hHeld ?_ (hy := by rintro w' ⟨s0, s1, s2, s3, s4⟩; go_simp; with_reducible rfl)
 refine ta_ HT_ HW_ 7 (some 14) (bv_ 16 2559) hHeld ?_ (hy := by rintro w' ⟨s0, s1, s2, s3, s4⟩; go_simp; with_reducible rfl)
 refine ta_ HT_ HW_ 9 (some 16) (bv_ 16 3071) hHeld ?_ (hy := by rintro w' ⟨s0, s1, s2, s3, s4⟩; go_simp; with_reducible rfl)
 refine ta_ HT_ HW_ 12 (some 19) (bv_ 16 7167) hHeld ?_ (hy := by rintro w' ⟨s0, s1, s2, s3, s4⟩; go_simp; with_reducible rfl)
 refine on_ HT_ 10 (some 17) (bv_ 16 8191) (fun K hK => ?_)
 refine gs_ Try.func208 #[.int .i64 a0, .agg #[.int .i64 a1_0, .int .i64 a1_1, .int .i64 a1_2], .int .i64 a2_0, .int .i64 a2_1] ?_
 with_reducible refine (impl_nearness.calls k a0 a1_0 a1_1 a1_2 a2_0 a2_1 t448 _ A8.out).mono ?_
 rintro e w12 ⟨rfl, hb⟩
 refine ⟨_, rfl, ?_⟩
 replace BK446 := bb_ BK446 hb
 replace BK447 := bb_ BK447 hb
 replace HB := bt_ HB hb
 try clear hb
 refine hK.out _ _ ⟨cz_ BK447 0, cz_ BK447 1, cz_ BK446 0, cz_ BK446 1, cz_ BK446 2⟩ (fun hHeld => ?_)
 clear hK K
 refine nm_ (some 17) ?_
 refine px_ HT_ 13 20 16383 ?_
 refine px_ HT_ 14 21 32767 ?_
 refine px_ HT_ 15 6 65535 ?_
 refine done_ (done_of HT_.out (by kernel_rfl)) ?_
 try go_wp2
 go_ret
 exact ⟨es_, (bw_ HB).out⟩
def impl_sideHas.f (k : Nat) (a0 a1_0 a1_1 a1_2 : Int) (a1_3 : Bool) (a2_0 a2_1 : Int) : Option (Bool) := (impl_held.f k a0 a1_0 a1_1 a1_2 a2_0 a2_1).bind fun t451 => (some (t451 != a1_3))
def impl_sideHas.T1 : Bool × List (List Nat × List Nat) := (true, [([], []), ([], []), ([1], [1]), ([], []), ([0, 2, 3], [0, 2, 3]), ([], []), ([5], [5]), ([4, 6], [4, 6]), ([7, 4, 0, 1, 2, 3, 4, 5, 6, 7], [7])])
def impl_sideHas.B1 : List Nat := [0, 0, 2, 0, 15, 0, 32, 127, 255]
theorem impl_sideHas.tab1 : rtab .any (opsOf Try.f180 1) = impl_sideHas.T1 := by kernel_rfl
theorem impl_sideHas.bits1 : waitsOk impl_sideHas.T1.2 impl_sideHas.B1 = true := by kernel_rfl
theorem impl_sideHas.calls (k : Nat) (a0 a1_0 a1_1 a1_2 : Int) (a1_3 : Bool) (a2_0 a2_1 : Int) (r : Bool) (w : World) (h : impl_sideHas.f k a0 a1_0 a1_1 a1_2 a1_3 a2_0 a2_1 = some r) :
  Calls Try.prog 180 #[.int .i64 a0, .agg #[.int .i64 a1_0, .int .i64 a1_1, .int .i64 a1_2, .bool a1_3], .agg #[.int .i64 a2_0, .int .i64 a2_1]] w fun e w' => e = .returned (.bool r) ∧ Below w.heap.size w w' := by
 have hu150 := Try.underlying150
 have hu74 := Try.underlying74
 have hu25 := Try.underlying25
 have HB := Aside0.mk (Below.refl w.heap.size w)
 unfold impl_sideHas.f at h
 have H := h
 clear h
 replace H := oc_ H
 obtain ⟨t451, A4, H⟩ := H
 obtain rfl := si_ H
 go_enter Try.func180, Try.ntmps180
 try go_wp2_with (first | ((refine gd_ 4 ?_); refine by_ 4 #[.int .i64 a1_0, .int .i64 a1_1, .int .i64 a1_2, .bool a1_3] 150 HB ?_; intro gb449 hg w5 BK449 hb GW449 HB_; replace HB := HB_; clear hb hg) | ((refine gd_ 5 ?_); refine by_ 5 #[.int .i64 a2_0, .int .i64 a2_1] 74 HB ?_; intro gb450 hg w6 BK450 hb GW450 HB_; have NB449_450 := bm_ BK449 hg; have NB450_449 := bn_ BK449 hg; replace BK449 := bb_ BK449 hb; replace HB := HB_; clear hb hg))
 replace BK449 := bd_ BK449
 replace BK450 := bd_ BK450
 replace HB := be_ HB
 refine start_ (n := 9) (S := fun w' => w'.cell? ⟨gb449, 0, none⟩ = some (.int .i64 a1_0) ∧ w'.cell? ⟨gb449, 1, none⟩ = some (.int .i64 a1_1) ∧ w'.cell? ⟨gb449, 2, none⟩ = some (.int .i64 a1_2) ∧ w'.cell? ⟨gb449, 3, none⟩ = some (.bool a1_3) ∧ w'.cell? ⟨gb450, 0, none⟩ = some (.int .i64 a2_0) ∧ w'.cell? ⟨gb450, 1, none⟩ = some (.int .i64 a2_1)) (ds := []) (bv_ 9 0) (by kernel_rfl) rfl rfl ⟨cz_ BK449 0, cz_ BK449 1, cz_ BK449 2, cz_ BK449 3, cz_ BK450 0, cz_ BK450 1⟩ (fun hHeld => ?_); refine with_tabW impl_sideHas.tab1 impl_sideHas.bits1 (fun HT_ HW_ => ?_)
 generalize w6.drew = w7 at BK449 BK450 HB hHeld ⊢
 refine px_ HT_ 0 7 1 ?_
 refine px_ HT_ 1 8 3 ?_
 refine px_ HT_ 5 12 35 ?_
 refine ta_ HT_ HW_ 2 (some 9) (bv_ 9 39) hHeld ?_ (hy := by rintro w' ⟨s0, s1, s2, s3, s4, s5⟩; go_simp; with_reducible rfl)
 refine ta_ HT_ HW_ 3 (some 10) (bv_ 9 47) hHeld ?_ (hy := by rintro w' ⟨s0, s1, s2, s3, s4, s5⟩; go_simp; with_reducible rfl)
 refine ta_ HT_ HW_ 6 (some 13) (bv_ 9 111) hHeld ?_ (hy := by rintro w' ⟨s0, s1, s2, s3, s4, s5⟩; go_simp; with_reducible rfl)
 refine on_ HT_ 4 (some 11) (bv_ 9 127) (fun K hK => ?_)
 refine gs_ Try.func201 #[.int .i64 a0, .agg #[.int .i64 a1_0, .int .i64 a1_1, .int .i64 a1_2], .agg #[.int .i64 a2_0, .int .i64 a2_1]] ?_
 with_reducible refine (impl_held.calls k a0 a1_0 a1_1 a1_2 a2_0 a2_1 t451 _ A4.out).mono ?_
 rintro e w8 ⟨rfl, hb⟩
 refine ⟨_, rfl, ?_⟩
 replace BK449 := bb_ BK449 hb
 replace BK450 := bb_ BK450 hb
 replace HB := bt_ HB hb
 try clear hb
 refine hK.out _ _ ⟨cz_ BK449 0, cz_ BK449 1, cz_ BK449 2, cz_ BK449 3, cz_ BK450 0, cz_ BK450 1⟩ (fun hHeld => ?_)
 clear hK K
 refine nm_ (some 11) ?_
 refine px_ HT_ 7 14 255 ?_
 refine px_ HT_ 8 6 511 ?_
 refine done_ (done_of HT_.out (by kernel_rfl)) ?_
 try go_wp2
 go_ret
 exact ⟨es_, (bw_ HB).out⟩
def impl_sideOf.l0 : Nat → Int → List (S150) → Int → Int → Int → Int → Option (Int)
 | 0, _, _, _, _, _, _ => none
 | k + 1, x0, x10, x11, x12, x453000, x453001 => if x12 < x11 then (if 0 ≤ x12 then (if x12 < (x10.length : Int) then ((impl_sideHas.f k x0 ((rd_T150 x10 x12).f0.f0) ((rd_T150 x10 x12).f0.f1) ((rd_T150 x10 x12).f0.f2) ((rd_T150 x10 x12).f1) x453000 x453001).bind fun t455 => (if t455 = true then (if (Int.tmod x12 2) = 0 then (some (wrap64 (-(wrap64 ((wrap64 (Int.tdiv x12 2)) + 1))))) else (some (wrap64 ((wrap64 (Int.tdiv x12 2)) + 1)))) else (impl_sideOf.l0 k x0 x10 x11 (wrap64 (x12 + 1)) x453000 x453001))) else (none)) else (none)) else (some 0)
def impl_sideOf.f (k : Nat) (a0 : Int) (l1 : List (S150)) (a2_0 a2_1 : Int) : Option (Int) := impl_sideOf.l0 k a0 l1 (l1.length : Int) 0 a2_0 a2_1
theorem impl_sideOf.calls (k : Nat) (a0 : Int) (A1 : Option Addr) (c1 : Nat) (l1 : List (S150)) (a2_0 a2_1 r : Int) (w : World) (hr1 : Kd.C k150 w A1 l1.length l1) (hc1 : l1.length ≤ c1) (h : impl_sideOf.f k a0 l1 a2_0 a2_1 = some r) :
  Calls Try.prog 142 #[.int .i64 a0, .slice A1 l1.length c1, .agg #[.int .i64 a2_0, .int .i64 a2_1]] w fun e w' => e = .returned (.int .i64 r) ∧ Below w.heap.size w w' := by
 have hu74 := Try.underlying74
 have hu150 := Try.underlying150
 have HR1 := Aside0.mk hr1
 have HC1 := Aside0.mk hc1
 clear hr1 hc1
 have HB := Aside0.mk (Below.refl w.heap.size w)
 unfold impl_sideOf.f at h
 have H := h
 clear h
 have H' := Aside0.mk H
 clear H
 go_enter Try.func142, Try.ntmps142
 go_wp2_with (first | ((refine gd_ 5 ?_); refine by_ 5 #[.int .i64 a2_0, .int .i64 a2_1] 74 HB ?_; intro gb452 hg w4 BK452 hb GW452 HB_; replace HB := HB_; clear hb hg))
 go_loopg [12] k (fun kq v12 w' => ∃ (x12_1 : Int), v12 = .int .i64 x12_1 ∧ Aside0 (impl_sideOf.l0 kq a0 l1 (l1.length : Int) x12_1 a2_0 a2_1 = some r) ∧ Aside0 (kq ≤ k) ∧ Aside0 (w'.heap[gb452]? = some (.cells #[.int .i64 a2_0, .int .i64 a2_1] 74 (0, 0))) ∧ Aside0 (Below w.heap.size w w'))
 case atStart => exact ⟨(0), en_, H', ⟨Nat.le_refl _⟩, bl_ BK452, bw_ HB⟩
 clear H'
 try clear c1
 obtain ⟨x12_1, rfl, HA, HK1, BK452, HB⟩ := hrel
 cases gk with
 | zero => exact absurd HA.out (by simp [impl_sideOf.l0])
 | succ k1 =>
  have H := HA.out
  clear HA
  simp only [impl_sideOf.l0] at H
  replace H := il_ H
  rcases H with ⟨c5b0, H⟩ | ⟨c5b0, H⟩
  ·replace H := imn_ H
   obtain ⟨c6b0, H⟩ := H
   replace H := iln_ H
   obtain ⟨c7b0, H⟩ := H
   replace H := oc_ H
   obtain ⟨t455, A8, H⟩ := H
   replace H := ib_ H
   rcases H with ⟨rfl, H⟩ | ⟨rfl, H⟩
   ·replace H := ie_ H
    rcases H with ⟨c10b0, c10b1, H⟩ | ⟨c10, c10b0, c10b1, H⟩
    ·obtain rfl := si_ H
     have p453 : 0 ≤ (x12_1 : Int) := od_
     have q453 : x12_1 < (l1.length : Int) := od_
     obtain ⟨ad453, e453, hx453_0, hx453_1, hx453_2, hx453_3⟩ := at_T150 HR1.out x12_1 p453 q453
     cases e453
     replace hx453_0 := clTr HB.out hx453_0
     replace hx453_1 := clTr HB.out hx453_1
     replace hx453_2 := clTr HB.out hx453_2
     replace hx453_3 := clTr HB.out hx453_3
     replace p453 := eq_true p453
     replace q453 := eq_true q453
     go_wp2_with (first | ((refine gd_ 8 ?_); refine by_ 8 #[.int .i64 0, .int .i64 0, .int .i64 0, .bool false] 150 HB ?_; intro gb454 hg w11 BK454 hb GW454 HB_; have NB452_454 := bm_ BK452 hg; have NB454_452 := bn_ BK452 hg; replace BK452 := bb_ BK452 hb; replace HB := HB_; clear hb hg; have hnb12 := NB454_452.out; have hnc12 := NB452_454.out; obtain ⟨hcz13_0, hcz13_1, hcz13_2, hcz13_3, hfz13_0, hfz13_1, hfz13_2, hfz13_3⟩ := ch4_ BK454; obtain ⟨hcz14_0, hcz14_1, hfz14_0, hfz14_1⟩ := ch2_ BK452) | ((refine gc_ 180 ?_); refine ge_ 20 Try.func180 #[.int .i64 a0, .agg #[.int .i64 ((rd_T150 l1 x12_1).f0.f0), .int .i64 ((rd_T150 l1 x12_1).f0.f1), .int .i64 ((rd_T150 l1 x12_1).f0.f2), .bool ((rd_T150 l1 x12_1).f1)], .agg #[.int .i64 a2_0, .int .i64 a2_1]] ?_; (with_reducible refine (impl_sideHas.calls k1 a0 ((rd_T150 l1 x12_1).f0.f0) ((rd_T150 l1 x12_1).f0.f1) ((rd_T150 l1 x12_1).f0.f2) ((rd_T150 l1 x12_1).f1) a2_0 a2_1 true _ A8.out).mono ?_); rintro e w15 ⟨rfl, hb⟩; refine ⟨_, rfl, ?_⟩; replace BK452 := fb_ BK452 NB452_454 hb; replace BK454 := Aside0.mk (blk_below (g := gb454) (o := .cells #[.int .i64 ((rd_T150 l1 x12_1).f0.f0), .int .i64 ((rd_T150 l1 x12_1).f0.f1), .int .i64 ((rd_T150 l1 x12_1).f0.f2), .bool ((rd_T150 l1 x12_1).f1)] 150 (0, 0)) (bp_ BK454).out hb); replace HB := bt_ HB hb; (try clear hb)))
     go_ret
     exact ⟨es_, (bw_ HB).out⟩
    obtain rfl := si_ H
    have p453 : 0 ≤ (x12_1 : Int) := od_
    have q453 : x12_1 < (l1.length : Int) := od_
    obtain ⟨ad453, e453, hx453_0, hx453_1, hx453_2, hx453_3⟩ := at_T150 HR1.out x12_1 p453 q453
    cases e453
    replace hx453_0 := clTr HB.out hx453_0
    replace hx453_1 := clTr HB.out hx453_1
    replace hx453_2 := clTr HB.out hx453_2
    replace hx453_3 := clTr HB.out hx453_3
    replace p453 := eq_true p453
    replace q453 := eq_true q453
    go_wp2_with (first | ((refine gd_ 8 ?_); refine by_ 8 #[.int .i64 0, .int .i64 0, .int .i64 0, .bool false] 150 HB ?_; intro gb454 hg w16 BK454 hb GW454 HB_; have NB452_454 := bm_ BK452 hg; have NB454_452 := bn_ BK452 hg; replace BK452 := bb_ BK452 hb; replace HB := HB_; clear hb hg; have hnb17 := NB454_452.out; have hnc17 := NB452_454.out; obtain ⟨hcz18_0, hcz18_1, hcz18_2, hcz18_3, hfz18_0, hfz18_1, hfz18_2, hfz18_3⟩ := ch4_ BK454; obtain ⟨hcz19_0, hcz19_1, hfz19_0, hfz19_1⟩ := ch2_ BK452) | ((refine gc_ 180 ?_); refine ge_ 20 Try.func180 #[.int .i64 a0, .agg #[.int .i64 ((rd_T150 l1 x12_1).f0.f0), .int .i64 ((rd_T150 l1 x12_1).f0.f1), .int .i64 ((rd_T150 l1 x12_1).f0.f2), .bool ((rd_T150 l1 x12_1).f1)], .agg #[.int .i64 a2_0, .int .i64 a2_1]] ?_; (with_reducible refine (impl_sideHas.calls k1 a0 ((rd_T150 l1 x12_1).f0.f0) ((rd_T150 l1 x12_1).f0.f1) ((rd_T150 l1 x12_1).f0.f2) ((rd_T150 l1 x12_1).f1) a2_0 a2_1 true _ A8.out).mono ?_); rintro e w20 ⟨rfl, hb⟩; refine ⟨_, rfl, ?_⟩; replace BK452 := fb_ BK452 NB452_454 hb; replace BK454 := Aside0.mk (blk_below (g := gb454) (o := .cells #[.int .i64 ((rd_T150 l1 x12_1).f0.f0), .int .i64 ((rd_T150 l1 x12_1).f0.f1), .int .i64 ((rd_T150 l1 x12_1).f0.f2), .bool ((rd_T150 l1 x12_1).f1)] 150 (0, 0)) (bp_ BK454).out hb); replace HB := bt_ HB hb; (try clear hb)))
    go_ret
    exact ⟨es_, (bw_ HB).out⟩
   have H' := Aside0.mk H
   clear H
   have p453 : 0 ≤ (x12_1 : Int) := od_
   have q453 : x12_1 < (l1.length : Int) := od_
   obtain ⟨ad453, e453, hx453_0, hx453_1, hx453_2, hx453_3⟩ := at_T150 HR1.out x12_1 p453 q453
   cases e453
   replace hx453_0 := clTr HB.out hx453_0
   replace hx453_1 := clTr HB.out hx453_1
   replace hx453_2 := clTr HB.out hx453_2
   replace hx453_3 := clTr HB.out hx453_3
   replace p453 := eq_true p453
   replace q453 := eq_true q453
   go_wp2_with (first | ((refine gd_ 8 ?_); refine by_ 8 #[.int .i64 0, .int .i64 0, .int .i64 0, .bool false] 150 HB ?_; intro gb454 hg w21 BK454 hb GW454 HB_; have NB452_454 := bm_ BK452 hg; have NB454_452 := bn_ BK452 hg; replace BK452 := bb_ BK452 hb; replace HB := HB_; clear hb hg; have hnb22 := NB454_452.out; have hnc22 := NB452_454.out; obtain ⟨hcz23_0, hcz23_1, hcz23_2, hcz23_3, hfz23_0, hfz23_1, hfz23_2, hfz23_3⟩ := ch4_ BK454; obtain ⟨hcz24_0, hcz24_1, hfz24_0, hfz24_1⟩ := ch2_ BK452) | ((refine gc_ 180 ?_); refine ge_ 20 Try.func180 #[.int .i64 a0, .agg #[.int .i64 ((rd_T150 l1 x12_1).f0.f0), .int .i64 ((rd_T150 l1 x12_1).f0.f1), .int .i64 ((rd_T150 l1 x12_1).f0.f2), .bool ((rd_T150 l1 x12_1).f1)], .agg #[.int .i64 a2_0, .int .i64 a2_1]] ?_; (with_reducible refine (impl_sideHas.calls k1 a0 ((rd_T150 l1 x12_1).f0.f0) ((rd_T150 l1 x12_1).f0.f1) ((rd_T150 l1 x12_1).f0.f2) ((rd_T150 l1 x12_1).f1) a2_0 a2_1 false _ A8.out).mono ?_); rintro e w25 ⟨rfl, hb⟩; refine ⟨_, rfl, ?_⟩; replace BK452 := fb_ BK452 NB452_454 hb; replace BK454 := Aside0.mk (blk_below (g := gb454) (o := .cells #[.int .i64 ((rd_T150 l1 x12_1).f0.f0), .int .i64 ((rd_T150 l1 x12_1).f0.f1), .int .i64 ((rd_T150 l1 x12_1).f0.f2), .bool ((rd_T150 l1 x12_1).f1)] 150 (0, 0)) (bp_ BK454).out hb); replace HB := bt_ HB hb; (try clear hb)))
   go_roundg k1
   case measure => have := HK1.out; omega
   case rel => exact ⟨(wrap64 (x12_1 + 1)), en_, H', ⟨by have := HK1.out; omega⟩, bl_ BK452, bw_ HB⟩
  obtain rfl := si_ H
  go_wp2
  go_ret
  exact ⟨es_, (bw_ HB).out⟩
end Go.Proofs.Ytgoeelhiffbjlaa.QB
