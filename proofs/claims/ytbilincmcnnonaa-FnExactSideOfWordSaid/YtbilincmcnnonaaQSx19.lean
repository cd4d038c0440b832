import Derived.Test.YtbilincmcnnonaaQSx8
import Derived.Test.YtbilincmcnnonaaQSx13
import Derived.Test.YtbilincmcnnonaaQSx18
namespace Go.Proofs.Ytbilincmcnnonaa.QS
open Go.RowKit Go.Proofs.YtbilincmcnnonaaW.PrintWords Go.Proofs.YtbilincmcnnonaaW.PrintLast Go.Proofs.YtbilincmcnnonaaW.PrintMore
attribute [local go_sem] isSome_setCell max2_int min2_int max_two min_two max_three min_three max_four min_four
set_option linter.unusedVariables false
set_option linter.unusedSimpArgs false

/-! ### spec_l09Move: function 116 -/
def spec_l09Move.j0 : Nat → Int → Int → Int → Int → Int → Bool → Int → Int → Int → Int → Int → Int → Int → Bool → Option (Int × Int × Int × Bool × Bool)
 | 0, _, _, _, _, _, _, _, _, _, _, _, _, _, _ => none
 | k + 1, x0, x9, x10, x11, x12, x13, x137000, x137001, x137002, x137003, x138000, x138001, x138002, x138003 => if x13 = true then ((spec_l01Val.f k x0 x12).bind fun t143 => ((spec_l01Of.f k x0 x137000 x12 (wrap64 ((wrap64 ((wrap64 (x9 - (wrap64 (2 * t143)))) - x138000)) + 1))).bind fun bt144 => (some (bt144.1, bt144.2.1, bt144.2.2.1, !x138003, bt144.2.2.2)))) else ((spec_l01Val.f k x0 x11).bind fun t149 => ((spec_l01Of.f k x0 x10 x11 (wrap64 ((wrap64 (x9 + x138000)) - (wrap64 (2 * (wrap64 (t149 - x138002))))))).bind fun bt150 => (some (bt150.1, bt150.2.1, bt150.2.2.1, x138003, bt150.2.2.2))))
def spec_l09Move.f (k : Nat) (a0 : Int) (a1_0 : Int) (a1_1 : Int) (a1_2 : Int) (a1_3 : Int) (a2_0 : Int) (a2_1 : Int) (a2_2 : Int) (a2_3 : Bool) : Option (Int × Int × Int × Bool × Bool) := (spec_l01Power.f k a0 a2_2).bind fun t139 => ((spec_l01Val.f k a0 (wrap64 ((wrap64 (a1_0 * a1_3)) - (wrap64 (a1_1 * a1_2))))).bind fun t140 => (if a1_2 = 0 then (spec_l09Move.j0 k a0 t140 (wrap64 ((wrap64 (a1_0 * a2_1)) + (wrap64 (a1_1 * t139)))) (wrap64 ((wrap64 (a1_2 * a2_1)) + (wrap64 (a1_3 * t139)))) a1_2 false a1_0 a1_1 a1_2 a1_3 a2_0 a2_1 a2_2 a2_3) else (if (wrap64 ((wrap64 (a1_2 * a2_1)) + (wrap64 (a1_3 * t139)))) = 0 then (spec_l09Move.j0 k a0 t140 (wrap64 ((wrap64 (a1_0 * a2_1)) + (wrap64 (a1_1 * t139)))) (wrap64 ((wrap64 (a1_2 * a2_1)) + (wrap64 (a1_3 * t139)))) a1_2 true a1_0 a1_1 a1_2 a1_3 a2_0 a2_1 a2_2 a2_3) else ((spec_l01Val.f k a0 (wrap64 ((wrap64 (a1_2 * a2_1)) + (wrap64 (a1_3 * t139))))).bind fun t141 => ((spec_l01Val.f k a0 a1_2).bind fun t142 => (spec_l09Move.j0 k a0 t140 (wrap64 ((wrap64 (a1_0 * a2_1)) + (wrap64 (a1_1 * t139)))) (wrap64 ((wrap64 (a1_2 * a2_1)) + (wrap64 (a1_3 * t139)))) a1_2 (decide ((wrap64 (t141 - a2_2)) ≥ (wrap64 (t142 + a2_0)))) a1_0 a1_1 a1_2 a1_3 a2_0 a2_1 a2_2 a2_3))))))
def spec_l09Move.T1 : Bool × List (List Nat × List Nat) := (true, [([], []), ([], []), ([1], [1]), ([2], [2]), ([0, 3], [0, 3]), ([], []), ([], []), ([6], [6]), ([7], [7]), ([], []), ([9], [9]), ([10], [10]), ([8, 11], [8, 11]), ([], []), ([13], [13]), ([14], [14]), ([], []), ([16], [16]), ([17], [17]), ([15, 18], [15, 18]), ([12, 19], [12, 19]), ([5, 20, 4], [5, 20]), ([4, 21, 0, 1, 2, 3, 4], [4]), ([21, 22, 0, 1, 2, 3, 4, 5, 6, 7, 8, 9, 10, 11, 12, 13, 14, 15, 16, 17, 18, 19, 20, 21, 22], [21])])
def spec_l09Move.B1 : List Nat := [0, 0, 2, 6, 15, 0, 0, 64, 192, 0, 512, 1536, 4032, 0, 8192, 24576, 0, 65536, 196608, 516096, 1048512, 2097151, 4194303, 8388607]
theorem spec_l09Move.tab1 : rtab .any (opsOf Try.f116 1) = spec_l09Move.T1 := by kernel_rfl
theorem spec_l09Move.bits1 : waitsOk spec_l09Move.T1.2 spec_l09Move.B1 = true := by kernel_rfl
def spec_l09Move.T5 : Bool × List (List Nat × List Nat) := (true, [([], []), ([0], [0]), ([1], [1]), ([2], [2]), ([3, 2], [2, 3]), ([4, 2, 2], [2, 4]), ([5], [5]), ([5], [5]), ([6, 7, 5, 5], [5, 6, 7]), ([5], [5]), ([9, 5], [5, 9]), ([10, 5], [5, 10]), ([8, 11, 5], [5, 8, 11]), ([5], [5]), ([5], [5]), ([13, 14, 8, 5], [5, 13, 14]), ([5], [5]), ([16, 5], [5, 16]), ([17, 5], [5, 17]), ([15, 18, 5], [5, 15, 18]), ([12, 19, 5], [5, 12, 19]), ([5, 20, 2], [2, 5, 20]), ([2, 21], [2, 21]), ([22, 15, 0, 1, 2, 3, 4, 5, 6, 7, 8, 9, 10, 11, 12, 13, 14, 15, 16, 17, 18, 19, 20, 21, 22], [22])])
def spec_l09Move.B5 : List Nat := [0, 1, 3, 7, 15, 31, 63, 63, 255, 63, 575, 1599, 4095, 63, 63, 25087, 63, 65599, 196671, 516607, 1048575, 2097151, 4194303, 8388607]
theorem spec_l09Move.tab5 : rtab .any (opsOf Try.f116 5) = spec_l09Move.T5 := by kernel_rfl
theorem spec_l09Move.bits5 : waitsOk spec_l09Move.T5.2 spec_l09Move.B5 = true := by kernel_rfl
def spec_l09Move.T7 : Bool × List (List Nat × List Nat) := (true, [([], []), ([], []), ([1], [1]), ([2], [2]), ([0, 3], [0, 3]), ([], []), ([], []), ([5, 6], [5, 6]), ([], []), ([8], [8]), ([9], [9]), ([7, 10], [7, 10]), ([11], [11]), ([4, 12], [4, 12]), ([13, 7, 0, 1, 2, 3, 4, 5, 6, 7, 8, 9, 10, 11, 12, 13], [13])])
def spec_l09Move.B7 : List Nat := [0, 0, 2, 6, 15, 0, 0, 96, 0, 256, 768, 2016, 4064, 8191, 16383]
theorem spec_l09Move.tab7 : rtab .any (opsOf Try.f116 7) = spec_l09Move.T7 := by kernel_rfl
theorem spec_l09Move.bits7 : waitsOk spec_l09Move.T7.2 spec_l09Move.B7 = true := by kernel_rfl
def spec_l09Move.T10 : Bool × List (List Nat × List Nat) := (true, [([], []), ([], []), ([1], [1]), ([2], [2]), ([], []), ([], []), ([], []), ([], []), ([6, 7], [6, 7]), ([8], [8]), ([5, 9], [5, 9]), ([], []), ([11], [11]), ([12], [12]), ([10, 13], [10, 13]), ([14], [14]), ([0, 3, 4, 15, 8], [0, 3, 4, 15]), ([16], [16]), ([17], [17]), ([17], [17]), ([], []), ([20, 18, 16, 0, 1, 2, 3, 4, 5, 6, 7, 8, 9, 10, 11, 12, 13, 14, 15, 16, 17, 18, 20], [18, 20]), ([19, 21, 0, 1, 2, 3, 4, 5, 6, 7, 8, 9, 10, 11, 12, 13, 14, 15, 16, 17, 18, 19, 20, 21], [19])])
def spec_l09Move.B10 : List Nat := [0, 0, 2, 6, 0, 0, 0, 0, 192, 448, 992, 0, 2048, 6144, 16352, 32736, 65535, 131071, 262143, 262143, 0, 1572863, 4194303]
theorem spec_l09Move.tab10 : rtab .any (opsOf Try.f116 10) = spec_l09Move.T10 := by kernel_rfl
theorem spec_l09Move.bits10 : waitsOk spec_l09Move.T10.2 spec_l09Move.B10 = true := by kernel_rfl
set_option maxHeartbeats 8000000 in
set_option maxRecDepth 100000 in
theorem spec_l09Move.calls (k : Nat) (a0 : Int) (a1_0 : Int) (a1_1 : Int) (a1_2 : Int) (a1_3 : Int) (a2_0 : Int) (a2_1 : Int) (a2_2 : Int) (a2_3 : Bool) (r1 : Int) (r2 : Int) (r3 : Int) (r4 : Bool) (r5 : Bool) (w : World) (h : spec_l09Move.f k a0 a1_0 a1_1 a1_2 a1_3 a2_0 a2_1 a2_2 a2_3 = some (r1, r2, r3, r4, r5)) :
  Calls Try.prog 116 #[.int .i64 a0, .agg #[.int .i64 a1_0, .int .i64 a1_1, .int .i64 a1_2, .int .i64 a1_3], .agg #[.int .i64 a2_0, .int .i64 a2_1, .int .i64 a2_2, .bool a2_3]] w fun e w' => e = .returned (.tuple #[.agg #[.int .i64 r1, .int .i64 r2, .int .i64 r3, .bool r4], .bool r5]) ∧ Below w.heap.size w w' := by
 have hu26 := Try.underlying26
 have hu59 := Try.underlying59
 have hu39 := Try.underlying39
 have hu24 := Try.underlying24
 have HB := Aside0.mk (Below.refl w.heap.size w)
 have H : ((spec_l01Power.f k a0 a2_2).bind fun t139 => ((spec_l01Val.f k a0 (wrap64 ((wrap64 (a1_0 * a1_3)) - (wrap64 (a1_1 * a1_2))))).bind fun t140 => (if a1_2 = 0 then (spec_l09Move.j0 k a0 t140 (wrap64 ((wrap64 (a1_0 * a2_1)) + (wrap64 (a1_1 * t139)))) (wrap64 ((wrap64 (a1_2 * a2_1)) + (wrap64 (a1_3 * t139)))) a1_2 false a1_0 a1_1 a1_2 a1_3 a2_0 a2_1 a2_2 a2_3) else (if (wrap64 ((wrap64 (a1_2 * a2_1)) + (wrap64 (a1_3 * t139)))) = 0 then (spec_l09Move.j0 k a0 t140 (wrap64 ((wrap64 (a1_0 * a2_1)) + (wrap64 (a1_1 * t139)))) (wrap64 ((wrap64 (a1_2 * a2_1)) + (wrap64 (a1_3 * t139)))) a1_2 true a1_0 a1_1 a1_2 a1_3 a2_0 a2_1 a2_2 a2_3) else ((spec_l01Val.f k a0 (wrap64 ((wrap64 (a1_2 * a2_1)) + (wrap64 (a1_3 * t139))))).bind fun t141 => ((spec_l01Val.f k a0 a1_2).bind fun t142 => (spec_l09Move.j0 k a0 t140 (wrap64 ((wrap64 (a1_0 * a2_1)) + (wrap64 (a1_1 * t139)))) (wrap64 ((wrap64 (a1_2 * a2_1)) + (wrap64 (a1_3 * t139)))) a1_2 (decide ((wrap64 (t141 - a2_2)) ≥ (wrap64 (t142 + a2_0)))) a1_0 a1_1 a1_2 a1_3 a2_0 a2_1 a2_2 a2_3))))))) = some (r1, r2, r3, r4, r5) := h
 clear h
 replace H := ob_ H
 obtain ⟨t139, A40, H⟩ := H
 have A4 := Aside0.mk A40
 clear A40
 replace H := ob_ H
 obtain ⟨t140, A50, H⟩ := H
 have A5 := Aside0.mk A50
 clear A50
 have HC6 := Aside0.mk H
 clear H
 go_enter Try.func116, Try.ntmps116
 try go_wp2_with (first | (refine bx_ 4 #[.int .i64 a1_0, .int .i64 a1_1, .int .i64 a1_2, .int .i64 a1_3] 26 ?_; intro gb136 hg w7 hbox hb; have BK136 := Aside0.mk (hbox); have GW136 := bs_ HB hg; have GE136 := bs_ HB hg; replace HB := bt_ HB hb; clear hb hbox hg) | (refine bx_ 5 #[.int .i64 a2_0, .int .i64 a2_1, .int .i64 a2_2, .bool a2_3] 59 ?_; intro gb137 hg w8 hbox hb; have BK137 := Aside0.mk (hbox); have GW137 := bs_ HB hg; have GE137 := bs_ HB hg; have NB136_137 := bm_ BK136 hg; have NB137_136 := bn_ BK136 hg; replace BK136 := bb_ BK136 hb; replace HB := bt_ HB hb; clear hb hbox hg) | (refine bx_ 6 #[.int .i64 0, .int .i64 0, .int .i64 0, .bool false] 59 ?_; intro gb138 hg w9 hbox hb; have BK138 := Aside0.mk (hbox); have GW138 := bs_ HB hg; have GE138 := bs_ HB hg; have NB136_138 := bm_ BK136 hg; have NB138_136 := bn_ BK136 hg; have NB137_138 := bm_ BK137 hg; have NB138_137 := bn_ BK137 hg; replace BK136 := bb_ BK136 hb; replace BK137 := bb_ BK137 hb; replace HB := bt_ HB hb; clear hb hbox hg))
 replace BK136 := Aside0.mk (blk_drew BK136.out)
 replace BK137 := Aside0.mk (blk_drew BK137.out)
 replace BK138 := Aside0.mk (blk_drew BK138.out)
 replace HB := Aside0.mk (below_drew1 HB.out)
 refine start_ (n := 24) (S := fun w' => w'.cell? ⟨gb137, 0, none⟩ = some (.int .i64 a2_0) ∧ w'.cell? ⟨gb137, 1, none⟩ = some (.int .i64 a2_1) ∧ w'.cell? ⟨gb137, 2, none⟩ = some (.int .i64 a2_2) ∧ w'.cell? ⟨gb137, 3, none⟩ = some (.bool a2_3) ∧ w'.cell? ⟨gb136, 0, none⟩ = some (.int .i64 a1_0) ∧ w'.cell? ⟨gb136, 1, none⟩ = some (.int .i64 a1_1) ∧ w'.cell? ⟨gb136, 2, none⟩ = some (.int .i64 a1_2) ∧ w'.cell? ⟨gb136, 3, none⟩ = some (.int .i64 a1_3)) (ds := []) (bv_ 24 0) (by kernel_rfl) rfl rfl ⟨cz_ BK137 0, cz_ BK137 1, cz_ BK137 2, cz_ BK137 3, cz_ BK136 0, cz_ BK136 1, cz_ BK136 2, cz_ BK136 3⟩ (fun hHeld => ?_); refine with_tabW spec_l09Move.tab1 spec_l09Move.bits1 (fun HT_ HW_ => ?_)
 generalize w9.drew = w10 at BK136 BK137 BK138 HB hHeld ⊢
 refine pu_ HT_ 0 (some 19) (bv_ 24 1) ?_
 refine pu_ HT_ 1 (some 20) (bv_ 24 3) ?_
 refine pu_ HT_ 2 (some 21) (bv_ 24 7) ?_
 refine pu_ HT_ 5 (some 24) (bv_ 24 39) ?_
 refine pu_ HT_ 6 (some 25) (bv_ 24 103) ?_
 refine pu_ HT_ 7 (some 26) (bv_ 24 231) ?_
 refine pu_ HT_ 9 (some 28) (bv_ 24 743) ?_
 refine pu_ HT_ 10 (some 29) (bv_ 24 1767) ?_
 refine pu_ HT_ 13 (some 32) (bv_ 24 9959) ?_
 refine pu_ HT_ 14 (some 33) (bv_ 24 26343) ?_
 refine pu_ HT_ 16 (some 35) (bv_ 24 91879) ?_
 refine pu_ HT_ 17 (some 36) (bv_ 24 222951) ?_
 refine ta_ HT_ HW_ 3 (some 22) (bv_ 24 222959) hHeld ?_ (hy := by rintro w' ⟨s0, s1, s2, s3, s4, s5, s6, s7⟩; go_simp; with_reducible rfl)
 refine ta_ HT_ HW_ 8 (some 27) (bv_ 24 223215) hHeld ?_ (hy := by rintro w' ⟨s0, s1, s2, s3, s4, s5, s6, s7⟩; go_simp; with_reducible rfl)
 refine ta_ HT_ HW_ 11 (some 30) (bv_ 24 225263) hHeld ?_ (hy := by rintro w' ⟨s0, s1, s2, s3, s4, s5, s6, s7⟩; go_simp; with_reducible rfl)
 refine pu_ HT_ 12 (some 31) (bv_ 24 229359) ?_
 refine ta_ HT_ HW_ 15 (some 34) (bv_ 24 262127) hHeld ?_ (hy := by rintro w' ⟨s0, s1, s2, s3, s4, s5, s6, s7⟩; go_simp; with_reducible rfl)
 refine ta_ HT_ HW_ 18 (some 37) (bv_ 24 524271) hHeld ?_ (hy := by rintro w' ⟨s0, s1, s2, s3, s4, s5, s6, s7⟩; go_simp; with_reducible rfl)
 refine pu_ HT_ 19 (some 38) (bv_ 24 1048559) ?_
 refine pu_ HT_ 20 (some 39) (bv_ 24 2097135) ?_
 refine on_ HT_ 4 (some 23) (bv_ 24 2097151) (fun K hK => ?_)
 refine gs_ Try.func156 #[.int .i64 a0, .int .i64 a2_2] ?_
 with_reducible refine (spec_l01Power.calls k a0 a2_2 t139 _ A4.out).mono ?_
 rintro e w' ⟨rfl, ⟨nd, rfl⟩⟩
 refine ⟨_, rfl, ?_⟩
 refine hK.out _ _ ⟨cz_ BK137 0, cz_ BK137 1, cz_ BK137 2, cz_ BK137 3, cz_ BK136 0, cz_ BK136 1, cz_ BK136 2, cz_ BK136 3⟩ (fun hHeld => ?_)
 clear hK K
 refine nm_ (some 23) ?_
 refine on_ HT_ 21 (some 40) (bv_ 24 4194303) (fun K hK => ?_)
 refine gs_ Try.func163 #[.int .i64 a0, .int .i64 (wrap64 ((wrap64 (a1_0 * a1_3)) - (wrap64 (a1_1 * a1_2))))] ?_
 with_reducible refine (spec_l01Val.calls k a0 (wrap64 ((wrap64 (a1_0 * a1_3)) - (wrap64 (a1_1 * a1_2)))) t140 _ A5.out).mono ?_
 rintro e w' ⟨rfl, ⟨nd, rfl⟩⟩
 refine ⟨_, rfl, ?_⟩
 refine hK.out _ _ ⟨cz_ BK137 0, cz_ BK137 1, cz_ BK137 2, cz_ BK137 3, cz_ BK136 0, cz_ BK136 1, cz_ BK136 2, cz_ BK136 3⟩ (fun hHeld => ?_)
 clear hK K
 refine nm_ (some 40) ?_
 refine pu_ HT_ 22 (some 8) (bv_ 24 8388607) ?_
 refine pu_ HT_ 23 (some 9) (bv_ 24 16777215) ?_
 refine done_ (done_of HT_.out (by kernel_rfl)) ?_
 have hnb11 := NB136_137.out
 have hnc11 := NB137_136.out
 have hnb12 := NB136_138.out
 have hnc12 := NB138_136.out
 obtain ⟨hcz13_0, hcz13_1, hcz13_2, hcz13_3, hfz13_0, hfz13_1, hfz13_2, hfz13_3⟩ := ch4_ BK136
 have hnb14 := NB137_138.out
 have hnc14 := NB138_137.out
 obtain ⟨hcz15_0, hcz15_1, hcz15_2, hcz15_3, hfz15_0, hfz15_1, hfz15_2, hfz15_3⟩ := ch4_ BK137
 go_upto_region 5 with (fail)
 go_cut [13] (fun v13 wc => ∃ (kq : Nat) (x13_5 : Bool), v13 = .bool x13_5 ∧ Aside0 (spec_l09Move.j0 kq a0 t140 (wrap64 ((wrap64 (a1_0 * a2_1)) + (wrap64 (a1_1 * t139)))) (wrap64 ((wrap64 (a1_2 * a2_1)) + (wrap64 (a1_3 * t139)))) a1_2 x13_5 a1_0 a1_1 a1_2 a1_3 a2_0 a2_1 a2_2 a2_3 = some (r1, r2, r3, r4, r5)) ∧ Aside0 (kq ≤ k) ∧ Aside0 (wc.heap[gb136]? = some (.cells #[.int .i64 a1_0, .int .i64 a1_1, .int .i64 a1_2, .int .i64 a1_3] 26 (0, 0))) ∧ Aside0 (wc.heap[gb137]? = some (.cells #[.int .i64 a2_0, .int .i64 a2_1, .int .i64 a2_2, .bool a2_3] 59 (0, 0))) ∧ Aside0 (wc.heap[gb138]? = some (.cells #[.int .i64 0, .int .i64 0, .int .i64 0, .bool false] 59 (0, 0))) ∧ Aside0 (Below w.heap.size w wc))
 case first =>
  have H := HC6.out
  clear HC6
  by_cases c16 : a1_2 = 0
  ·rw [if_pos c16] at H
   have c16b0 : (a1_2 == 0) = true := beq_iff_eq.mpr c16
   have c16b1 : (a1_2 != 0) = false := bne_eq_false_iff_eq.mpr c16
   clear c16
   (first | rw [c16b0] | (simp only [i64_w, i32_w]; rw [c16b0]) | skip)
   have H' := Aside0.mk H
   clear H
   try go_wp2
   (try (rw [drewN_self w10]; generalize hq_ : World.drewN w10 _ = w10; have n0_ : Aside0 (w10.heap[gb136]? = some (.cells #[.int .i64 a1_0, .int .i64 a1_1, .int .i64 a1_2, .int .i64 a1_3] 26 (0, 0))) := ⟨by rw [← hq_]; exact (bl_ BK136).out⟩; have n1_ : Aside0 (w10.heap[gb137]? = some (.cells #[.int .i64 a2_0, .int .i64 a2_1, .int .i64 a2_2, .bool a2_3] 59 (0, 0))) := ⟨by rw [← hq_]; exact (bl_ BK137).out⟩; have n2_ : Aside0 (w10.heap[gb138]? = some (.cells #[.int .i64 0, .int .i64 0, .int .i64 0, .bool false] 59 (0, 0))) := ⟨by rw [← hq_]; exact (bl_ BK138).out⟩; have n3_ : Aside0 (Below w.heap.size w w10) := ⟨by rw [← hq_]; exact (bw_ HB).out⟩; clear BK136 BK137 BK138 HB hq_; have BK136 := n0_; have BK137 := n1_; have BK138 := n2_; have HB := n3_; clear n0_ n1_ n2_ n3_))
   replace BK136 := Aside0.mk (blk_drew BK136.out)
   replace BK137 := Aside0.mk (blk_drew BK137.out)
   replace BK138 := Aside0.mk (blk_drew BK138.out)
   replace HB := Aside0.mk (below_drew1 HB.out)
   refine start_ (n := 24) (S := fun w' => True) (ds := []) (bv_ 24 0) (by kernel_rfl) rfl rfl trivial (fun hHeld => ?_); refine with_tabW spec_l09Move.tab5 spec_l09Move.bits5 (fun HT_ HW_ => ?_)
   generalize w10.drew = w17 at BK136 BK137 BK138 HB hHeld ⊢
   refine pu_ HT_ 0 (some 70) (bv_ 24 1) ?_
   refine pu_ HT_ 1 (some 71) (bv_ 24 3) ?_
   refine pu_ HT_ 2 (some 72) (bv_ 24 7) ?_
   refine pv_ HT_ 3 (some 73) (bv_ 24 15) ?_
   refine pv_ HT_ 4 (some 74) (bv_ 24 31) ?_
   refine pv_ HT_ 5 (some 75) (bv_ 24 63) ?_
   refine pv_ HT_ 6 (some 76) (bv_ 24 127) ?_
   refine pv_ HT_ 7 (some 77) (bv_ 24 255) ?_
   refine pv_ HT_ 8 (some 78) (bv_ 24 511) ?_
   refine pv_ HT_ 9 (some 79) (bv_ 24 1023) ?_
   refine pv_ HT_ 10 (some 80) (bv_ 24 2047) ?_
   refine pv_ HT_ 11 (some 81) (bv_ 24 4095) ?_
   refine pv_ HT_ 12 (some 82) (bv_ 24 8191) ?_
   refine pv_ HT_ 13 (some 83) (bv_ 24 16383) ?_
   refine pv_ HT_ 14 (some 84) (bv_ 24 32767) ?_
   refine pv_ HT_ 15 (some 85) (bv_ 24 65535) ?_
   refine pv_ HT_ 16 (some 86) (bv_ 24 131071) ?_
   refine pv_ HT_ 17 (some 87) (bv_ 24 262143) ?_
   refine pv_ HT_ 18 (some 88) (bv_ 24 524287) ?_
   refine pv_ HT_ 19 (some 89) (bv_ 24 1048575) ?_
   refine pv_ HT_ 20 (some 90) (bv_ 24 2097151) ?_
   refine pv_ HT_ 21 (some 91) (bv_ 24 4194303) ?_
   refine pu_ HT_ 22 (some 92) (bv_ 24 8388607) ?_
   refine pu_ HT_ 23 (some 13) (bv_ 24 16777215) ?_
   refine done_ (done_of HT_.out (by kernel_rfl)) ?_
   try go_wp2
   go_meet
   case rel => exact ⟨_, (false), en_, H', ⟨by first | omega | exact Nat.le_refl _⟩, bl_ BK136, bl_ BK137, bl_ BK138, bw_ HB⟩
  ·rw [if_neg c16] at H
   have c16b0 : (a1_2 == 0) = false := beq_eq_false_iff_ne.mpr c16
   have c16b1 : (a1_2 != 0) = true := bne_iff_ne.mpr c16
   (first | rw [c16b0] | (simp only [i64_w, i32_w]; rw [c16b0]) | skip)
   by_cases c18 : (wrap64 ((wrap64 (a1_2 * a2_1)) + (wrap64 (a1_3 * t139)))) = 0
   ·rw [if_pos c18] at H
    have c18b0 : ((wrap64 ((wrap64 (a1_2 * a2_1)) + (wrap64 (a1_3 * t139)))) == 0) = true := beq_iff_eq.mpr c18
    have c18b1 : ((wrap64 ((wrap64 (a1_2 * a2_1)) + (wrap64 (a1_3 * t139)))) != 0) = false := bne_eq_false_iff_eq.mpr c18
    clear c18
    have H' := Aside0.mk H
    clear H
    try go_wp2
    (try (rw [drewN_self w10]; generalize hq_ : World.drewN w10 _ = w10; have n0_ : Aside0 (w10.heap[gb136]? = some (.cells #[.int .i64 a1_0, .int .i64 a1_1, .int .i64 a1_2, .int .i64 a1_3] 26 (0, 0))) := ⟨by rw [← hq_]; exact (bl_ BK136).out⟩; have n1_ : Aside0 (w10.heap[gb137]? = some (.cells #[.int .i64 a2_0, .int .i64 a2_1, .int .i64 a2_2, .bool a2_3] 59 (0, 0))) := ⟨by rw [← hq_]; exact (bl_ BK137).out⟩; have n2_ : Aside0 (w10.heap[gb138]? = some (.cells #[.int .i64 0, .int .i64 0, .int .i64 0, .bool false] 59 (0, 0))) := ⟨by rw [← hq_]; exact (bl_ BK138).out⟩; have n3_ : Aside0 (Below w.heap.size w w10) := ⟨by rw [← hq_]; exact (bw_ HB).out⟩; clear BK136 BK137 BK138 HB hq_; have BK136 := n0_; have BK137 := n1_; have BK138 := n2_; have HB := n3_; clear n0_ n1_ n2_ n3_))
    replace BK136 := Aside0.mk (blk_drew BK136.out)
    replace BK137 := Aside0.mk (blk_drew BK137.out)
    replace BK138 := Aside0.mk (blk_drew BK138.out)
    replace HB := Aside0.mk (below_drew1 HB.out)
    refine start_ (n := 24) (S := fun w' => True) (ds := []) (bv_ 24 0) (by kernel_rfl) rfl rfl trivial (fun hHeld => ?_); refine with_tabW spec_l09Move.tab5 spec_l09Move.bits5 (fun HT_ HW_ => ?_)
    generalize w10.drew = w19 at BK136 BK137 BK138 HB hHeld ⊢
    refine pu_ HT_ 0 (some 70) (bv_ 24 1) ?_
    refine pu_ HT_ 1 (some 71) (bv_ 24 3) ?_
    refine pu_ HT_ 2 (some 72) (bv_ 24 7) ?_
    refine pu_ HT_ 3 (some 73) (bv_ 24 15) ?_
    refine pu_ HT_ 4 (some 74) (bv_ 24 31) ?_
    refine pu_ HT_ 5 (some 75) (bv_ 24 63) ?_
    refine pv_ HT_ 6 (some 76) (bv_ 24 127) ?_
    refine pv_ HT_ 7 (some 77) (bv_ 24 255) ?_
    refine pv_ HT_ 8 (some 78) (bv_ 24 511) ?_
    refine pv_ HT_ 9 (some 79) (bv_ 24 1023) ?_
    refine pv_ HT_ 10 (some 80) (bv_ 24 2047) ?_
    refine pv_ HT_ 11 (some 81) (bv_ 24 4095) ?_
    refine pv_ HT_ 12 (some 82) (bv_ 24 8191) ?_
    refine pv_ HT_ 13 (some 83) (bv_ 24 16383) ?_
    refine pv_ HT_ 14 (some 84) (bv_ 24 32767) ?_
    refine pv_ HT_ 15 (some 85) (bv_ 24 65535) ?_
    refine pv_ HT_ 16 (some 86) (bv_ 24 131071) ?_
    refine pv_ HT_ 17 (some 87) (bv_ 24 262143) ?_
    refine pv_ HT_ 18 (some 88) (bv_ 24 524287) ?_
    refine pv_ HT_ 19 (some 89) (bv_ 24 1048575) ?_
    refine pv_ HT_ 20 (some 90) (bv_ 24 2097151) ?_
    refine pu_ HT_ 21 (some 91) (bv_ 24 4194303) ?_
    refine pu_ HT_ 22 (some 92) (bv_ 24 8388607) ?_
    refine pu_ HT_ 23 (some 13) (bv_ 24 16777215) ?_
    refine done_ (done_of HT_.out (by kernel_rfl)) ?_
    try go_wp2
    go_meet
    case rel => exact ⟨_, (true), en_, H', ⟨by first | omega | exact Nat.le_refl _⟩, bl_ BK136, bl_ BK137, bl_ BK138, bw_ HB⟩
   ·rw [if_neg c18] at H
    have c18b0 : ((wrap64 ((wrap64 (a1_2 * a2_1)) + (wrap64 (a1_3 * t139)))) == 0) = false := beq_eq_false_iff_ne.mpr c18
    have c18b1 : ((wrap64 ((wrap64 (a1_2 * a2_1)) + (wrap64 (a1_3 * t139)))) != 0) = true := bne_iff_ne.mpr c18
    replace H := ob_ H
    obtain ⟨t141, A200, H⟩ := H
    have A20 := Aside0.mk A200
    clear A200
    replace H := ob_ H
    obtain ⟨t142, A210, H⟩ := H
    have A21 := Aside0.mk A210
    clear A210
    have H' := Aside0.mk H
    clear H
    try go_wp2
    (try (rw [drewN_self w10]; generalize hq_ : World.drewN w10 _ = w10; have n0_ : Aside0 (w10.heap[gb136]? = some (.cells #[.int .i64 a1_0, .int .i64 a1_1, .int .i64 a1_2, .int .i64 a1_3] 26 (0, 0))) := ⟨by rw [← hq_]; exact (bl_ BK136).out⟩; have n1_ : Aside0 (w10.heap[gb137]? = some (.cells #[.int .i64 a2_0, .int .i64 a2_1, .int .i64 a2_2, .bool a2_3] 59 (0, 0))) := ⟨by rw [← hq_]; exact (bl_ BK137).out⟩; have n2_ : Aside0 (w10.heap[gb138]? = some (.cells #[.int .i64 0, .int .i64 0, .int .i64 0, .bool false] 59 (0, 0))) := ⟨by rw [← hq_]; exact (bl_ BK138).out⟩; have n3_ : Aside0 (Below w.heap.size w w10) := ⟨by rw [← hq_]; exact (bw_ HB).out⟩; clear BK136 BK137 BK138 HB hq_; have BK136 := n0_; have BK137 := n1_; have BK138 := n2_; have HB := n3_; clear n0_ n1_ n2_ n3_))
    replace BK136 := Aside0.mk (blk_drew BK136.out)
    replace BK137 := Aside0.mk (blk_drew BK137.out)
    replace BK138 := Aside0.mk (blk_drew BK138.out)
    replace HB := Aside0.mk (below_drew1 HB.out)
    refine start_ (n := 24) (S := fun w' => w'.cell? ⟨gb137, 0, none⟩ = some (.int .i64 a2_0) ∧ w'.cell? ⟨gb137, 1, none⟩ = some (.int .i64 a2_1) ∧ w'.cell? ⟨gb137, 2, none⟩ = some (.int .i64 a2_2) ∧ w'.cell? ⟨gb137, 3, none⟩ = some (.bool a2_3)) (ds := []) (bv_ 24 0) (by kernel_rfl) rfl rfl ⟨cz_ BK137 0, cz_ BK137 1, cz_ BK137 2, cz_ BK137 3⟩ (fun hHeld => ?_); refine with_tabW spec_l09Move.tab5 spec_l09Move.bits5 (fun HT_ HW_ => ?_)
    generalize w10.drew = w22 at BK136 BK137 BK138 HB hHeld ⊢
    refine pu_ HT_ 0 (some 70) (bv_ 24 1) ?_
    refine pu_ HT_ 1 (some 71) (bv_ 24 3) ?_
    refine pu_ HT_ 2 (some 72) (bv_ 24 7) ?_
    refine pu_ HT_ 3 (some 73) (bv_ 24 15) ?_
    refine pu_ HT_ 4 (some 74) (bv_ 24 31) ?_
    refine pu_ HT_ 5 (some 75) (bv_ 24 63) ?_
    refine pu_ HT_ 6 (some 76) (bv_ 24 127) ?_
    refine pu_ HT_ 7 (some 77) (bv_ 24 255) ?_
    refine pu_ HT_ 9 (some 79) (bv_ 24 767) ?_
    refine pu_ HT_ 10 (some 80) (bv_ 24 1791) ?_
    refine pu_ HT_ 13 (some 83) (bv_ 24 9983) ?_
    refine pu_ HT_ 14 (some 84) (bv_ 24 26367) ?_
    refine pu_ HT_ 16 (some 86) (bv_ 24 91903) ?_
    refine pu_ HT_ 17 (some 87) (bv_ 24 222975) ?_
    refine ta_ HT_ HW_ 11 (some 81) (bv_ 24 225023) hHeld ?_ (hy := by rintro w' ⟨s0, s1, s2, s3⟩; go_simp; with_reducible rfl)
    refine ta_ HT_ HW_ 18 (some 88) (bv_ 24 487167) hHeld ?_ (hy := by rintro w' ⟨s0, s1, s2, s3⟩; go_simp; with_reducible rfl)
    refine on_ HT_ 8 (some 78) (bv_ 24 487423) (fun K hK => ?_)
    refine gs_ Try.func163 #[.int .i64 a0, .int .i64 (wrap64 ((wrap64 (a1_2 * a2_1)) + (wrap64 (a1_3 * t139))))] ?_
    with_reducible refine (spec_l01Val.calls k a0 (wrap64 ((wrap64 (a1_2 * a2_1)) + (wrap64 (a1_3 * t139)))) t141 _ A20.out).mono ?_
    rintro e w' ⟨rfl, ⟨nd, rfl⟩⟩
    refine ⟨_, rfl, ?_⟩
    refine hK.out _ _ ⟨cz_ BK137 0, cz_ BK137 1, cz_ BK137 2, cz_ BK137 3⟩ (fun hHeld => ?_)
    clear hK K
    refine nm_ (some 78) ?_
    refine pu_ HT_ 12 (some 82) (bv_ 24 491519) ?_
    refine on_ HT_ 15 (some 85) (bv_ 24 524287) (fun K hK => ?_)
    refine gs_ Try.func163 #[.int .i64 a0, .int .i64 a1_2] ?_
    with_reducible refine (spec_l01Val.calls k a0 a1_2 t142 _ A21.out).mono ?_
    rintro e w' ⟨rfl, ⟨nd, rfl⟩⟩
    refine ⟨_, rfl, ?_⟩
    refine hK.out _ _ ⟨cz_ BK137 0, cz_ BK137 1, cz_ BK137 2, cz_ BK137 3⟩ (fun hHeld => ?_)
    clear hK K
    refine nm_ (some 85) ?_
    refine pu_ HT_ 19 (some 89) (bv_ 24 1048575) ?_
    refine pu_ HT_ 20 (some 90) (bv_ 24 2097151) ?_
    refine pu_ HT_ 21 (some 91) (bv_ 24 4194303) ?_
    refine pu_ HT_ 22 (some 92) (bv_ 24 8388607) ?_
    refine pu_ HT_ 23 (some 13) (bv_ 24 16777215) ?_
    refine done_ (done_of HT_.out (by kernel_rfl)) ?_
    try go_wp2
    go_meet
    case rel => exact ⟨_, (decide ((wrap64 (t141 - a2_2)) ≥ (wrap64 (t142 + a2_0)))), en_, H', ⟨by first | omega | exact Nat.le_refl _⟩, bl_ BK136, bl_ BK137, bl_ BK138, bw_ HB⟩
 case rest =>
  clear HC6
  try clear c1
  try clear p2
  try clear p6
  try clear c11
  try clear c12
  try clear c14
  try clear c16
  try clear c16b0
  try clear c16b1
  try clear c18
  try clear c18b0
  try clear c18b1
  try clear hcz13_0 hcz13_1 hcz13_2 hcz13_3
  try clear hcz15_0 hcz15_1 hcz15_2 hcz15_3
  try clear hfz13_0 hfz13_1 hfz13_2 hfz13_3
  try clear hfz15_0 hfz15_1 hfz15_2 hfz15_3
  obtain ⟨kq, x13_5, rfl, HA, HJ5, BK136, BK137, BK138, HB⟩ := hcut
  cases kq with
  | zero => exact absurd HA.out (by simp [spec_l09Move.j0])
  | succ kj5 =>
   have H := HA.out
   clear HA
   simp only [spec_l09Move.j0] at H
   by_cases c23 : x13_5 = true
   ·subst c23
    have H1 : ((spec_l01Val.f kj5 a0 a1_2).bind fun t143 => ((spec_l01Of.f kj5 a0 a1_0 a1_2 (wrap64 ((wrap64 ((wrap64 (t140 - (wrap64 (2 * t143)))) - a2_0)) + 1))).bind fun bt144 => (some (bt144.1, bt144.2.1, bt144.2.2.1, !a2_3, bt144.2.2.2)))) = some (r1, r2, r3, r4, r5) := by rw [if_pos rfl] at H; exact H
    clear H
    have H := H1
    clear H1
    replace H := ob_ H
    obtain ⟨t143, A240, H⟩ := H
    have A24 := Aside0.mk A240
    clear A240
    replace H := ob_ H
    obtain ⟨⟨t144, t145, t146, t147⟩, A250, H⟩ := H
    have A25 := Aside0.mk A250
    clear A250
    simp only [Option.some.injEq, Prod.mk.injEq] at H
    obtain ⟨rfl, rfl, rfl, rfl, rfl⟩ := H
    try go_wp2
    replace BK136 := Aside0.mk (blk_drew BK136.out)
    replace BK137 := Aside0.mk (blk_drew BK137.out)
    replace BK138 := Aside0.mk (blk_drew BK138.out)
    replace HB := Aside0.mk (below_drew1 HB.out)
    refine start_ (n := 23) (S := fun w' => w'.cell? ⟨gb136, 0, none⟩ = some (.int .i64 a1_0) ∧ w'.cell? ⟨gb136, 1, none⟩ = some (.int .i64 a1_1) ∧ w'.cell? ⟨gb136, 2, none⟩ = some (.int .i64 a1_2) ∧ w'.cell? ⟨gb136, 3, none⟩ = some (.int .i64 a1_3) ∧ w'.cell? ⟨gb137, 0, none⟩ = some (.int .i64 a2_0) ∧ w'.cell? ⟨gb137, 1, none⟩ = some (.int .i64 a2_1) ∧ w'.cell? ⟨gb137, 2, none⟩ = some (.int .i64 a2_2) ∧ w'.cell? ⟨gb137, 3, none⟩ = some (.bool a2_3)) (ds := []) (bv_ 23 0) (by kernel_rfl) rfl rfl ⟨cz_ BK136 0, cz_ BK136 1, cz_ BK136 2, cz_ BK136 3, cz_ BK137 0, cz_ BK137 1, cz_ BK137 2, cz_ BK137 3⟩ (fun hHeld => ?_); refine with_tabW spec_l09Move.tab10 spec_l09Move.bits10 (fun HT_ HW_ => ?_)
    generalize wc.drew = w26 at BK136 BK137 BK138 HB hHeld ⊢
    refine pu_ HT_ 0 (some 123) (bv_ 23 1) ?_
    refine pu_ HT_ 1 (some 124) (bv_ 23 3) ?_
    refine pu_ HT_ 2 (some 125) (bv_ 23 7) ?_
    refine pu_ HT_ 4 (some 127) (bv_ 23 23) ?_
    refine pu_ HT_ 5 (some 128) (bv_ 23 55) ?_
    refine pu_ HT_ 6 (some 129) (bv_ 23 119) ?_
    refine pu_ HT_ 7 (some 130) (bv_ 23 247) ?_
    refine pu_ HT_ 11 (some 134) (bv_ 23 2295) ?_
    refine pu_ HT_ 12 (some 135) (bv_ 23 6391) ?_
    refine ta_ HT_ HW_ 3 (some 126) (bv_ 23 6399) hHeld ?_ (hy := by rintro w' ⟨s0, s1, s2, s3, s4, s5, s6, s7⟩; go_simp; with_reducible rfl)
    refine ta_ HT_ HW_ 13 (some 136) (bv_ 23 14591) hHeld ?_ (hy := by rintro w' ⟨s0, s1, s2, s3, s4, s5, s6, s7⟩; go_simp; with_reducible rfl)
    refine join_ (σ := Nat) 2 (bv_ 23 2097151) (fun s_ => [(131, .int .i64 t143), (139, .tuple #[.agg #[.int .i64 t144, .int .i64 t145, .int .i64 t146], .bool t147]), (17, .pointer (some ⟨s_, 0, none⟩)), (132, .int .i64 (wrap64 (2 * t143))), (133, .int .i64 (wrap64 (t140 - (wrap64 (2 * t143))))), (137, .int .i64 (wrap64 ((wrap64 (t140 - (wrap64 (2 * t143)))) - a2_0))), (138, .int .i64 (wrap64 ((wrap64 ((wrap64 (t140 - (wrap64 (2 * t143)))) - a2_0)) + 1))), (122, .tuple #[.agg #[.int .i64 t144, .int .i64 t145, .int .i64 t146], .bool t147]), (140, .agg #[.int .i64 t144, .int .i64 t145, .int .i64 t146]), (141, .bool t147)]) (fun s_ w' => (w'.cell? ⟨gb136, 0, none⟩ = some (.int .i64 a1_0) ∧ w'.cell? ⟨gb136, 1, none⟩ = some (.int .i64 a1_1) ∧ w'.cell? ⟨gb136, 2, none⟩ = some (.int .i64 a1_2) ∧ w'.cell? ⟨gb136, 3, none⟩ = some (.int .i64 a1_3) ∧ w'.cell? ⟨gb137, 0, none⟩ = some (.int .i64 a2_0) ∧ w'.cell? ⟨gb137, 1, none⟩ = some (.int .i64 a2_1) ∧ w'.cell? ⟨gb137, 2, none⟩ = some (.int .i64 a2_2) ∧ w'.cell? ⟨gb137, 3, none⟩ = some (.bool a2_3)) ∧ (w'.heap[gb136]? = some (.cells #[.int .i64 a1_0, .int .i64 a1_1, .int .i64 a1_2, .int .i64 a1_3] 26 (0, 0))) ∧ (w'.heap[gb137]? = some (.cells #[.int .i64 a2_0, .int .i64 a2_1, .int .i64 a2_2, .bool a2_3] 59 (0, 0))) ∧ (w'.heap[gb138]? = some (.cells #[.int .i64 0, .int .i64 0, .int .i64 0, .bool false] 59 (0, 0))) ∧ (w'.heap[s_]? = some (.cells #[.int .i64 0, .int .i64 0, .int .i64 0] 39 (0, 0))) ∧ (w.heap.size ≤ s_) ∧ (w.heap.size ≤ s_) ∧ (gb136 ≠ s_) ∧ (s_ ≠ gb136) ∧ (gb137 ≠ s_) ∧ (s_ ≠ gb137) ∧ (gb138 ≠ s_) ∧ (s_ ≠ gb138) ∧ (Below w.heap.size w w')) ?_ ?_
    rotate_left
    ·intro hCont
     refine tw_ HT_ 8 20 (some 131) (some 17) (bv_ 23 14847) (bv_ 23 1063167) (fun K hK => ?_) (fun K hK => ?_)
     ·skip
      refine gs_ Try.func163 #[.int .i64 a0, .int .i64 a1_2] ?_
      with_reducible refine (spec_l01Val.calls kj5 a0 a1_2 t143 _ A24.out).mono ?_
      rintro e w' ⟨rfl, ⟨nd, rfl⟩⟩
      refine ⟨_, rfl, ?_⟩
      refine hK.out _ _ ⟨cz_ BK136 0, cz_ BK136 1, cz_ BK136 2, cz_ BK136 3, cz_ BK137 0, cz_ BK137 1, cz_ BK137 2, cz_ BK137 3⟩ (fun hHeld => ?_)
      clear hK K
      refine nm_ (some 131) ?_
      refine pu_ HT_ 9 (some 132) (bv_ 23 15359) ?_
      refine pu_ HT_ 10 (some 133) (bv_ 23 16383) ?_
      refine pu_ HT_ 14 (some 137) (bv_ 23 32767) ?_
      refine pu_ HT_ 15 (some 138) (bv_ 23 65535) ?_
      refine tw_ HT_ 16 20 (some 139) (some 17) (bv_ 23 131071) (bv_ 23 1114111) (fun K hK => ?_) (fun K hK => ?_)
      ·skip
       refine gs_ Try.func157 #[.int .i64 a0, .int .i64 a1_0, .int .i64 a1_2, .int .i64 (wrap64 ((wrap64 ((wrap64 (t140 - (wrap64 (2 * t143)))) - a2_0)) + 1))] ?_
       with_reducible refine (spec_l01Of.calls kj5 a0 a1_0 a1_2 (wrap64 ((wrap64 ((wrap64 (t140 - (wrap64 (2 * t143)))) - a2_0)) + 1)) t144 t145 t146 t147 _ A25.out).mono ?_
       rintro e w27 ⟨rfl, hb⟩
       refine ⟨_, rfl, ?_⟩
       replace BK136 := bb_ BK136 hb
       replace BK137 := bb_ BK137 hb
       replace BK138 := bb_ BK138 hb
       replace HB := bt_ HB hb
       (try clear hb)
       (try clear hb2)
       (try clear hk)
       (try clear hi)
       refine hK.out _ _ ⟨cz_ BK136 0, cz_ BK136 1, cz_ BK136 2, cz_ BK136 3, cz_ BK137 0, cz_ BK137 1, cz_ BK137 2, cz_ BK137 3⟩ (fun hHeld => ?_)
       clear hK K
       refine nm_ (some 139) ?_
       refine pu_ HT_ 17 (some 122) (bv_ 23 262143) ?_
       refine pu_ HT_ 18 (some 140) (bv_ 23 524287) ?_
       refine pu_ HT_ 19 (some 141) (bv_ 23 1048575) ?_
       refine on_ HT_ 20 (some 17) (bv_ 23 2097151) (fun K hK => ?_)
       refine bz_ 17 #[.int .i64 0, .int .i64 0, .int .i64 0] 39 ?_
       intro gb148 hg w28 hbox hb
       have BK148 := Aside0.mk (hbox)
       have GW148 := bs_ HB hg
       have GE148 := bs_ HB hg
       have NB136_148 := bm_ BK136 hg
       have NB148_136 := bn_ BK136 hg
       have NB137_148 := bm_ BK137 hg
       have NB148_137 := bn_ BK137 hg
       have NB138_148 := bm_ BK138 hg
       have NB148_138 := bn_ BK138 hg
       replace BK136 := bb_ BK136 hb
       replace BK137 := bb_ BK137 hb
       replace BK138 := bb_ BK138 hb
       replace HB := bt_ HB hb
       clear hb hbox hg
       refine hK.out _ _ ⟨cz_ BK136 0, cz_ BK136 1, cz_ BK136 2, cz_ BK136 3, cz_ BK137 0, cz_ BK137 1, cz_ BK137 2, cz_ BK137 3⟩ (fun hHeld => ?_)
       clear hK K
       refine nm_ (some 17) ?_
       exact norm_ (by simp only [putAll, Act.put, lstS, lstZ, lstC]) (hCont (gb148) _ ⟨hHeld, (bl_ BK136).out, (bl_ BK137).out, (bl_ BK138).out, (bl_ BK148).out, GW148.out, GE148.out, NB136_148.out, NB148_136.out, NB137_148.out, NB148_137.out, NB138_148.out, NB148_138.out, (bw_ HB).out⟩)
      ·skip
       refine bz_ 17 #[.int .i64 0, .int .i64 0, .int .i64 0] 39 ?_
       intro gb148 hg w27 hbox hb
       have BK148 := Aside0.mk (hbox)
       have GW148 := bs_ HB hg
       have GE148 := bs_ HB hg
       have NB136_148 := bm_ BK136 hg
       have NB148_136 := bn_ BK136 hg
       have NB137_148 := bm_ BK137 hg
       have NB148_137 := bn_ BK137 hg
       have NB138_148 := bm_ BK138 hg
       have NB148_138 := bn_ BK138 hg
       replace BK136 := bb_ BK136 hb
       replace BK137 := bb_ BK137 hb
       replace BK138 := bb_ BK138 hb
       replace HB := bt_ HB hb
       clear hb hbox hg
       refine hK.out _ _ ⟨cz_ BK136 0, cz_ BK136 1, cz_ BK136 2, cz_ BK136 3, cz_ BK137 0, cz_ BK137 1, cz_ BK137 2, cz_ BK137 3⟩ (fun hHeld => ?_)
       clear hK K
       refine nm_ (some 17) ?_
       refine on_ HT_ 16 (some 139) (bv_ 23 1179647) (fun K hK => ?_)
       refine gs_ Try.func157 #[.int .i64 a0, .int .i64 a1_0, .int .i64 a1_2, .int .i64 (wrap64 ((wrap64 ((wrap64 (t140 - (wrap64 (2 * t143)))) - a2_0)) + 1))] ?_
       with_reducible refine (spec_l01Of.calls kj5 a0 a1_0 a1_2 (wrap64 ((wrap64 ((wrap64 (t140 - (wrap64 (2 * t143)))) - a2_0)) + 1)) t144 t145 t146 t147 _ A25.out).mono ?_
       rintro e w28 ⟨rfl, hb⟩
       refine ⟨_, rfl, ?_⟩
       replace BK136 := bb_ BK136 hb
       replace BK137 := bb_ BK137 hb
       replace BK138 := bb_ BK138 hb
       replace BK148 := bb_ BK148 hb
       replace HB := bt_ HB hb
       (try clear hb)
       (try clear hb2)
       (try clear hk)
       (try clear hi)
       refine hK.out _ _ ⟨cz_ BK136 0, cz_ BK136 1, cz_ BK136 2, cz_ BK136 3, cz_ BK137 0, cz_ BK137 1, cz_ BK137 2, cz_ BK137 3⟩ (fun hHeld => ?_)
       clear hK K
       refine nm_ (some 139) ?_
       refine pu_ HT_ 17 (some 122) (bv_ 23 1310719) ?_
       refine pu_ HT_ 18 (some 140) (bv_ 23 1572863) ?_
       refine pu_ HT_ 19 (some 141) (bv_ 23 2097151) ?_
       exact norm_ (by simp only [putAll, Act.put, lstS, lstZ, lstC]) (hCont (gb148) _ ⟨hHeld, (bl_ BK136).out, (bl_ BK137).out, (bl_ BK138).out, (bl_ BK148).out, GW148.out, GE148.out, NB136_148.out, NB148_136.out, NB137_148.out, NB148_137.out, NB138_148.out, NB148_138.out, (bw_ HB).out⟩)
     ·skip
      refine bz_ 17 #[.int .i64 0, .int .i64 0, .int .i64 0] 39 ?_
      intro gb148 hg w27 hbox hb
      have BK148 := Aside0.mk (hbox)
      have GW148 := bs_ HB hg
      have GE148 := bs_ HB hg
      have NB136_148 := bm_ BK136 hg
      have NB148_136 := bn_ BK136 hg
      have NB137_148 := bm_ BK137 hg
      have NB148_137 := bn_ BK137 hg
      have NB138_148 := bm_ BK138 hg
      have NB148_138 := bn_ BK138 hg
      replace BK136 := bb_ BK136 hb
      replace BK137 := bb_ BK137 hb
      replace BK138 := bb_ BK138 hb
      replace HB := bt_ HB hb
      clear hb hbox hg
      refine hK.out _ _ ⟨cz_ BK136 0, cz_ BK136 1, cz_ BK136 2, cz_ BK136 3, cz_ BK137 0, cz_ BK137 1, cz_ BK137 2, cz_ BK137 3⟩ (fun hHeld => ?_)
      clear hK K
      refine nm_ (some 17) ?_
      refine on_ HT_ 8 (some 131) (bv_ 23 1063423) (fun K hK => ?_)
      refine gs_ Try.func163 #[.int .i64 a0, .int .i64 a1_2] ?_
      with_reducible refine (spec_l01Val.calls kj5 a0 a1_2 t143 _ A24.out).mono ?_
      rintro e w' ⟨rfl, ⟨nd, rfl⟩⟩
      refine ⟨_, rfl, ?_⟩
      refine hK.out _ _ ⟨cz_ BK136 0, cz_ BK136 1, cz_ BK136 2, cz_ BK136 3, cz_ BK137 0, cz_ BK137 1, cz_ BK137 2, cz_ BK137 3⟩ (fun hHeld => ?_)
      clear hK K
      refine nm_ (some 131) ?_
      refine pu_ HT_ 9 (some 132) (bv_ 23 1063935) ?_
      refine pu_ HT_ 10 (some 133) (bv_ 23 1064959) ?_
      refine pu_ HT_ 14 (some 137) (bv_ 23 1081343) ?_
      refine pu_ HT_ 15 (some 138) (bv_ 23 1114111) ?_
      refine on_ HT_ 16 (some 139) (bv_ 23 1179647) (fun K hK => ?_)
      refine gs_ Try.func157 #[.int .i64 a0, .int .i64 a1_0, .int .i64 a1_2, .int .i64 (wrap64 ((wrap64 ((wrap64 (t140 - (wrap64 (2 * t143)))) - a2_0)) + 1))] ?_
      with_reducible refine (spec_l01Of.calls kj5 a0 a1_0 a1_2 (wrap64 ((wrap64 ((wrap64 (t140 - (wrap64 (2 * t143)))) - a2_0)) + 1)) t144 t145 t146 t147 _ A25.out).mono ?_
      rintro e w28 ⟨rfl, hb⟩
      refine ⟨_, rfl, ?_⟩
      replace BK136 := bb_ BK136 hb
      replace BK137 := bb_ BK137 hb
      replace BK138 := bb_ BK138 hb
      replace BK148 := bb_ BK148 hb
      replace HB := bt_ HB hb
      (try clear hb)
      (try clear hb2)
      (try clear hk)
      (try clear hi)
      refine hK.out _ _ ⟨cz_ BK136 0, cz_ BK136 1, cz_ BK136 2, cz_ BK136 3, cz_ BK137 0, cz_ BK137 1, cz_ BK137 2, cz_ BK137 3⟩ (fun hHeld => ?_)
      clear hK K
      refine nm_ (some 139) ?_
      refine pu_ HT_ 17 (some 122) (bv_ 23 1310719) ?_
      refine pu_ HT_ 18 (some 140) (bv_ 23 1572863) ?_
      refine pu_ HT_ 19 (some 141) (bv_ 23 2097151) ?_
      exact norm_ (by simp only [putAll, Act.put, lstS, lstZ, lstC]) (hCont (gb148) _ ⟨hHeld, (bl_ BK136).out, (bl_ BK137).out, (bl_ BK138).out, (bl_ BK148).out, GW148.out, GE148.out, NB136_148.out, NB148_136.out, NB137_148.out, NB148_137.out, NB138_148.out, NB148_138.out, (bw_ HB).out⟩)
    rintro gb148 w29 ⟨hS_, h0_, h1_, h2_, h3_, h4_, h5_, h6_, h7_, h8_, h9_, h10_, h11_, h12_⟩
    have n0_ : Aside0 (w29.heap[gb136]? = some (.cells #[.int .i64 a1_0, .int .i64 a1_1, .int .i64 a1_2, .int .i64 a1_3] 26 (0, 0))) := ⟨h0_⟩
    have n1_ : Aside0 (w29.heap[gb137]? = some (.cells #[.int .i64 a2_0, .int .i64 a2_1, .int .i64 a2_2, .bool a2_3] 59 (0, 0))) := ⟨h1_⟩
    have n2_ : Aside0 (w29.heap[gb138]? = some (.cells #[.int .i64 0, .int .i64 0, .int .i64 0, .bool false] 59 (0, 0))) := ⟨h2_⟩
    have n3_ : Aside0 (w29.heap[gb148]? = some (.cells #[.int .i64 0, .int .i64 0, .int .i64 0] 39 (0, 0))) := ⟨h3_⟩
    have n4_ : Aside0 (w.heap.size ≤ gb148) := ⟨h4_⟩
    have n5_ : Aside0 (w.heap.size ≤ gb148) := ⟨h5_⟩
    have n6_ : Aside0 (gb136 ≠ gb148) := ⟨h6_⟩
    have n7_ : Aside0 (gb148 ≠ gb136) := ⟨h7_⟩
    have n8_ : Aside0 (gb137 ≠ gb148) := ⟨h8_⟩
    have n9_ : Aside0 (gb148 ≠ gb137) := ⟨h9_⟩
    have n10_ : Aside0 (gb138 ≠ gb148) := ⟨h10_⟩
    have n11_ : Aside0 (gb148 ≠ gb138) := ⟨h11_⟩
    have n12_ : Aside0 (Below w.heap.size w w29) := ⟨h12_⟩
    clear BK136
    clear BK137
    clear BK138
    clear HB
    clear h0_ h1_ h2_ h3_ h4_ h5_ h6_ h7_ h8_ h9_ h10_ h11_ h12_
    have BK136 := n0_
    have BK137 := n1_
    have BK138 := n2_
    have BK148 := n3_
    have GW148 := n4_
    have GE148 := n5_
    have NB136_148 := n6_
    have NB148_136 := n7_
    have NB137_148 := n8_
    have NB148_137 := n9_
    have NB138_148 := n10_
    have NB148_138 := n11_
    have HB := n12_
    clear n0_ n1_ n2_ n3_ n4_ n5_ n6_ n7_ n8_ n9_ n10_ n11_ n12_
    have hHeld : w29.cell? ⟨gb136, 0, none⟩ = some (.int .i64 a1_0) ∧ w29.cell? ⟨gb136, 1, none⟩ = some (.int .i64 a1_1) ∧ w29.cell? ⟨gb136, 2, none⟩ = some (.int .i64 a1_2) ∧ w29.cell? ⟨gb136, 3, none⟩ = some (.int .i64 a1_3) ∧ w29.cell? ⟨gb137, 0, none⟩ = some (.int .i64 a2_0) ∧ w29.cell? ⟨gb137, 1, none⟩ = some (.int .i64 a2_1) ∧ w29.cell? ⟨gb137, 2, none⟩ = some (.int .i64 a2_2) ∧ w29.cell? ⟨gb137, 3, none⟩ = some (.bool a2_3) := hS_
    refine norm_ (a' := ?_) ?_ ?_
    rotate_left
    ·simp only [putAll, Act.put, lstS, lstZ, lstC]
     rfl
    refine on_ HT_ 21 none (bv_ 23 4194303) (fun K hK => ?_)
    have hs30 : w29.cell? ⟨gb148, 0, none⟩ = some (.int .i64 0) := (blk_cell BK148.out 0).trans rfl
    have hfs30 := blk_frozen BK148.out 0
    have hns30_0 := NB136_148.out
    have hns30_1 := NB137_148.out
    have hns30_2 := NB138_148.out
    have hms30_0 := NB148_136.out
    have hms30_1 := NB148_137.out
    have hms30_2 := NB148_138.out
    have hs31 : w29.cell? ⟨gb148, 1, none⟩ = some (.int .i64 0) := (blk_cell BK148.out 1).trans rfl
    have hfs31 := blk_frozen BK148.out 1
    have hns31_0 := NB136_148.out
    have hns31_1 := NB137_148.out
    have hns31_2 := NB138_148.out
    have hms31_0 := NB148_136.out
    have hms31_1 := NB148_137.out
    have hms31_2 := NB148_138.out
    have hs32 : w29.cell? ⟨gb148, 2, none⟩ = some (.int .i64 0) := (blk_cell BK148.out 2).trans rfl
    have hfs32 := blk_frozen BK148.out 2
    have hns32_0 := NB136_148.out
    have hns32_1 := NB137_148.out
    have hns32_2 := NB138_148.out
    have hms32_0 := NB148_136.out
    have hms32_1 := NB148_137.out
    have hms32_2 := NB148_138.out
    refine skip_ (w1 := ?_) (by rfl) rfl ?_ ?_
    rotate_left
    ·go_simp
     rfl
    refine hK.out _ _ ⟨(cg_ NB136_148 ((cg_ NB136_148 ((cg_ NB136_148 (hHeld.1)))))), (cg_ NB136_148 ((cg_ NB136_148 ((cg_ NB136_148 (hHeld.2.1)))))), (cg_ NB136_148 ((cg_ NB136_148 ((cg_ NB136_148 (hHeld.2.2.1)))))), (cg_ NB136_148 ((cg_ NB136_148 ((cg_ NB136_148 (hHeld.2.2.2.1)))))), (cg_ NB137_148 ((cg_ NB137_148 ((cg_ NB137_148 (hHeld.2.2.2.2.1)))))), (cg_ NB137_148 ((cg_ NB137_148 ((cg_ NB137_148 (hHeld.2.2.2.2.2.1)))))), (cg_ NB137_148 ((cg_ NB137_148 ((cg_ NB137_148 (hHeld.2.2.2.2.2.2.1)))))), (cg_ NB137_148 ((cg_ NB137_148 ((cg_ NB137_148 (hHeld.2.2.2.2.2.2.2))))))⟩ (fun hHeld => ?_)
    clear hK K
    refine pu_ HT_ 22 (some 18) (bv_ 23 8388607) ?_
    refine done_ (done_of HT_.out (by kernel_rfl)) ?_
    have hnb33 := NB148_136.out
    have hnc33 := NB136_148.out
    have hnb34 := NB148_137.out
    have hnc34 := NB137_148.out
    have hnb35 := NB148_138.out
    have hnc35 := NB138_148.out
    obtain ⟨hcz36_0, hcz36_1, hcz36_2, hfz36_0, hfz36_1, hfz36_2⟩ := ch3_ BK148
    have hnb37 := NB137_136.out
    have hnc37 := NB136_137.out
    have hnb38 := NB137_138.out
    have hnc38 := NB138_137.out
    obtain ⟨hcz39_0, hcz39_1, hcz39_2, hcz39_3, hfz39_0, hfz39_1, hfz39_2, hfz39_3⟩ := ch4_ BK137
    have hnb40 := NB138_136.out
    have hnc40 := NB136_138.out
    obtain ⟨hcz41_0, hcz41_1, hcz41_2, hcz41_3, hfz41_0, hfz41_1, hfz41_2, hfz41_3⟩ := ch4_ BK138
    try go_wp2
    refine bodyPost_ret (results_ct rfl _ _ gb138 59 #[.int .i64 t144, .int .i64 t145, .int .i64 t146, .bool (!a2_3)] (0, 0) _ rfl (bp_ BK138).out Try.underlying59 rfl (by kernel_rfl)) rfl ?_
    exact ⟨es_, (bw_ HB).out⟩
   ·replace c23 := Bool.eq_false_iff.mpr c23
    subst c23
    have H1 : ((spec_l01Val.f kj5 a0 (wrap64 ((wrap64 (a1_2 * a2_1)) + (wrap64 (a1_3 * t139))))).bind fun t149 => ((spec_l01Of.f kj5 a0 (wrap64 ((wrap64 (a1_0 * a2_1)) + (wrap64 (a1_1 * t139)))) (wrap64 ((wrap64 (a1_2 * a2_1)) + (wrap64 (a1_3 * t139)))) (wrap64 ((wrap64 (t140 + a2_0)) - (wrap64 (2 * (wrap64 (t149 - a2_2))))))).bind fun bt150 => (some (bt150.1, bt150.2.1, bt150.2.2.1, a2_3, bt150.2.2.2)))) = some (r1, r2, r3, r4, r5) := by rw [if_neg (show ¬ (false = true) by decide)] at H; exact H
    clear H
    have H := H1
    clear H1
    replace H := ob_ H
    obtain ⟨t149, A420, H⟩ := H
    have A42 := Aside0.mk A420
    clear A420
    replace H := ob_ H
    obtain ⟨⟨t150, t151, t152, t153⟩, A430, H⟩ := H
    have A43 := Aside0.mk A430
    clear A430
    simp only [Option.some.injEq, Prod.mk.injEq] at H
    obtain ⟨rfl, rfl, rfl, rfl, rfl⟩ := H
    try go_wp2
    replace BK136 := Aside0.mk (blk_drew BK136.out)
    replace BK137 := Aside0.mk (blk_drew BK137.out)
    replace BK138 := Aside0.mk (blk_drew BK138.out)
    replace HB := Aside0.mk (below_drew1 HB.out)
    refine start_ (n := 15) (S := fun w' => w'.cell? ⟨gb137, 0, none⟩ = some (.int .i64 a2_0) ∧ w'.cell? ⟨gb137, 1, none⟩ = some (.int .i64 a2_1) ∧ w'.cell? ⟨gb137, 2, none⟩ = some (.int .i64 a2_2) ∧ w'.cell? ⟨gb137, 3, none⟩ = some (.bool a2_3)) (ds := []) (bv_ 15 0) (by kernel_rfl) rfl rfl ⟨cz_ BK137 0, cz_ BK137 1, cz_ BK137 2, cz_ BK137 3⟩ (fun hHeld => ?_); refine with_tabW spec_l09Move.tab7 spec_l09Move.bits7 (fun HT_ HW_ => ?_)
    generalize wc.drew = w44 at BK136 BK137 BK138 HB hHeld ⊢
    refine pu_ HT_ 0 (some 95) (bv_ 15 1) ?_
    refine pu_ HT_ 1 (some 96) (bv_ 15 3) ?_
    refine pu_ HT_ 2 (some 97) (bv_ 15 7) ?_
    refine pu_ HT_ 5 (some 100) (bv_ 15 39) ?_
    refine pu_ HT_ 6 (some 101) (bv_ 15 103) ?_
    refine pu_ HT_ 8 (some 103) (bv_ 15 359) ?_
    refine pu_ HT_ 9 (some 104) (bv_ 15 871) ?_
    refine ta_ HT_ HW_ 3 (some 98) (bv_ 15 879) hHeld ?_ (hy := by rintro w' ⟨s0, s1, s2, s3⟩; go_simp; with_reducible rfl)
    refine pu_ HT_ 4 (some 99) (bv_ 15 895) ?_
    refine ta_ HT_ HW_ 10 (some 105) (bv_ 15 1919) hHeld ?_ (hy := by rintro w' ⟨s0, s1, s2, s3⟩; go_simp; with_reducible rfl)
    refine on_ HT_ 7 (some 102) (bv_ 15 2047) (fun K hK => ?_)
    refine gs_ Try.func163 #[.int .i64 a0, .int .i64 (wrap64 ((wrap64 (a1_2 * a2_1)) + (wrap64 (a1_3 * t139))))] ?_
    with_reducible refine (spec_l01Val.calls kj5 a0 (wrap64 ((wrap64 (a1_2 * a2_1)) + (wrap64 (a1_3 * t139)))) t149 _ A42.out).mono ?_
    rintro e w' ⟨rfl, ⟨nd, rfl⟩⟩
    refine ⟨_, rfl, ?_⟩
    refine hK.out _ _ ⟨cz_ BK137 0, cz_ BK137 1, cz_ BK137 2, cz_ BK137 3⟩ (fun hHeld => ?_)
    clear hK K
    refine nm_ (some 102) ?_
    refine pu_ HT_ 11 (some 106) (bv_ 15 4095) ?_
    refine pu_ HT_ 12 (some 107) (bv_ 15 8191) ?_
    refine pu_ HT_ 13 (some 108) (bv_ 15 16383) ?_
    refine pu_ HT_ 14 (some 14) (bv_ 15 32767) ?_
    refine done_ (done_of HT_.out (by kernel_rfl)) ?_
    try go_wp2_with (first | (refine ge_ 114 Try.func157 #[.int .i64 a0, .int .i64 (wrap64 ((wrap64 (a1_0 * a2_1)) + (wrap64 (a1_1 * t139)))), .int .i64 (wrap64 ((wrap64 (a1_2 * a2_1)) + (wrap64 (a1_3 * t139)))), .int .i64 (wrap64 ((wrap64 (t140 + a2_0)) - (wrap64 (2 * (wrap64 (t149 - a2_2))))))] ?_; (with_reducible refine (spec_l01Of.calls kj5 a0 (wrap64 ((wrap64 (a1_0 * a2_1)) + (wrap64 (a1_1 * t139)))) (wrap64 ((wrap64 (a1_2 * a2_1)) + (wrap64 (a1_3 * t139)))) (wrap64 ((wrap64 (t140 + a2_0)) - (wrap64 (2 * (wrap64 (t149 - a2_2)))))) t150 t151 t152 t153 _ A43.out).mono ?_); rintro e w45 ⟨rfl, hb⟩; refine ⟨_, rfl, ?_⟩; replace BK136 := bb_ BK136 hb; replace BK137 := bb_ BK137 hb; replace BK138 := bb_ BK138 hb; replace HB := bt_ HB hb; (try clear hb); (try clear hb2); (try clear hk); (try clear hi)) | (refine bx_ 15 #[.int .i64 0, .int .i64 0, .int .i64 0] 39 ?_; intro gb154 hg w46 hbox hb; have BK154 := Aside0.mk (hbox); have GW154 := bs_ HB hg; have GE154 := bs_ HB hg; have NB136_154 := bm_ BK136 hg; have NB154_136 := bn_ BK136 hg; have NB137_154 := bm_ BK137 hg; have NB154_137 := bn_ BK137 hg; have NB138_154 := bm_ BK138 hg; have NB154_138 := bn_ BK138 hg; replace BK136 := bb_ BK136 hb; replace BK137 := bb_ BK137 hb; replace BK138 := bb_ BK138 hb; replace HB := bt_ HB hb; clear hb hbox hg; have hnb47 := NB154_136.out; have hnc47 := NB136_154.out; have hnb48 := NB154_137.out; have hnc48 := NB137_154.out; have hnb49 := NB154_138.out; have hnc49 := NB138_154.out; obtain ⟨hcz50_0, hcz50_1, hcz50_2, hfz50_0, hfz50_1, hfz50_2⟩ := ch3_ BK154; have hnb51 := NB137_136.out; have hnc51 := NB136_137.out; have hnb52 := NB137_138.out; have hnc52 := NB138_137.out; obtain ⟨hcz53_0, hcz53_1, hcz53_2, hcz53_3, hfz53_0, hfz53_1, hfz53_2, hfz53_3⟩ := ch4_ BK137; have hnb54 := NB138_136.out; have hnc54 := NB136_138.out; obtain ⟨hcz55_0, hcz55_1, hcz55_2, hcz55_3, hfz55_0, hfz55_1, hfz55_2, hfz55_3⟩ := ch4_ BK138))
    refine bodyPost_ret (results_ct rfl _ _ gb138 59 #[.int .i64 t150, .int .i64 t151, .int .i64 t152, .bool a2_3] (0, 0) _ rfl (bp_ BK138).out Try.underlying59 rfl (by kernel_rfl)) rfl ?_
    exact ⟨es_, (bw_ HB).out⟩
end Go.Proofs.Ytbilincmcnnonaa.QS
