-- Written by a program of this session out of Lean's own print of the loaded program; Lean checks it.
import Derived.Test.YtojpcbbmbnmchaaQCx4
import Derived.Test.YtojpcbbmbnmchaaQCx12
import Derived.Test.YtojpcbbmbnmchaaQCx18
import Derived.Test.YtojpcbbmbnmchaaQCx28
namespace Go.Proofs.Ytojpcbbmbnmchaa.QC
open Go.RowKit Go.Proofs.YtojpcbbmbnmchaaW.PrintWords Go.Proofs.YtojpcbbmbnmchaaW.PrintLast Go.Proofs.YtojpcbbmbnmchaaW.PrintMore
attribute [local go_sem] isSome_setCell max2_int min2_int max_two min_two max_three min_three max_four min_four   -- for this text's walks alone
set_option linter.unusedVariables false
set_option linter.unusedSimpArgs false

/-! ### spec_l09Move: function 35 -/
def spec_l09Move.j0 : Nat → Int → Int → Int → Int → Int → Bool → Int → Int → Int → Int → Int → Int → Int → Bool → Option (Int × Int × Int × Bool × Bool)
 | 0, _, _, _, _, _, _, _, _, _, _, _, _, _, _ => none
 | k + 1, x0, x9, x10, x11, x12, x13, x589000, x589001, x589002, x589003, x590000, x590001, x590002, x590003 => if x13 = true then ((spec_l01Val.f k x0 x12).bind fun t595 => ((spec_l01Of.f k x0 x589000 x12 (wrap64 ((wrap64 ((wrap64 (x9 - (wrap64 (2 * t595)))) - x590000)) + 1))).bind fun bt596 => (some (bt596.1, bt596.2.1, bt596.2.2.1, !x590003, bt596.2.2.2)))) else ((spec_l01Val.f k x0 x11).bind fun t601 => ((spec_l01Of.f k x0 x10 x11 (wrap64 ((wrap64 (x9 + x590000)) - (wrap64 (2 * (wrap64 (t601 - x590002))))))).bind fun bt602 => (some (bt602.1, bt602.2.1, bt602.2.2.1, x590003, bt602.2.2.2))))
def spec_l09Move.f (k : Nat) (a0 : Int) (a1_0 : Int) (a1_1 : Int) (a1_2 : Int) (a1_3 : Int) (a2_0 : Int) (a2_1 : Int) (a2_2 : Int) (a2_3 : Bool) : Option (Int × Int × Int × Bool × Bool) := (spec_l01Power.f k a0 a2_2).bind fun t591 => ((spec_l01Val.f k a0 (wrap64 ((wrap64 (a1_0 * a1_3)) - (wrap64 (a1_1 * a1_2))))).bind fun t592 => (if a1_2 = 0 then (spec_l09Move.j0 k a0 t592 (wrap64 ((wrap64 (a1_0 * a2_1)) + (wrap64 (a1_1 * t591)))) (wrap64 ((wrap64 (a1_2 * a2_1)) + (wrap64 (a1_3 * t591)))) a1_2 false a1_0 a1_1 a1_2 a1_3 a2_0 a2_1 a2_2 a2_3) else (if (wrap64 ((wrap64 (a1_2 * a2_1)) + (wrap64 (a1_3 * t591)))) = 0 then (spec_l09Move.j0 k a0 t592 (wrap64 ((wrap64 (a1_0 * a2_1)) + (wrap64 (a1_1 * t591)))) (wrap64 ((wrap64 (a1_2 * a2_1)) + (wrap64 (a1_3 * t591)))) a1_2 true a1_0 a1_1 a1_2 a1_3 a2_0 a2_1 a2_2 a2_3) else ((spec_l01Val.f k a0 (wrap64 ((wrap64 (a1_2 * a2_1)) + (wrap64 (a1_3 * t591))))).bind fun t593 => ((spec_l01Val.f k a0 a1_2).bind fun t594 => (spec_l09Move.j0 k a0 t592 (wrap64 ((wrap64 (a1_0 * a2_1)) + (wrap64 (a1_1 * t591)))) (wrap64 ((wrap64 (a1_2 * a2_1)) + (wrap64 (a1_3 * t591)))) a1_2 (decide ((wrap64 (t593 - a2_2)) ≥ (wrap64 (t594 + a2_0)))) a1_0 a1_1 a1_2 a1_3 a2_0 a2_1 a2_2 a2_3))))))
def spec_l09Move.T1 : Bool × List (List Nat × List Nat) := (true, [([], []), ([], []), ([1], [1]), ([2], [2]), ([0, 3], [0, 3]), ([], []), ([], []), ([6], [6]), ([7], [7]), ([], []), ([9], [9]), ([10], [10]), ([8, 11], [8, 11]), ([], []), ([13], [13]), ([14], [14]), ([], []), ([16], [16]), ([17], [17]), ([15, 18], [15, 18]), ([12, 19], [12, 19]), ([5, 20, 4], [5, 20]), ([4, 21, 0, 1, 2, 3, 4], [4]), ([21, 22, 0, 1, 2, 3, 4, 5, 6, 7, 8, 9, 10, 11, 12, 13, 14, 15, 16, 17, 18, 19, 20, 21, 22], [21])])
def spec_l09Move.B1 : List Nat := [0, 0, 2, 6, 15, 0, 0, 64, 192, 0, 512, 1536, 4032, 0, 8192, 24576, 0, 65536, 196608, 516096, 1048512, 2097151, 4194303, 8388607]
theorem spec_l09Move.tab1 : rtab .any (opsOf Try.f35 1) = spec_l09Move.T1 := by kernel_rfl
theorem spec_l09Move.bits1 : waitsOk spec_l09Move.T1.2 spec_l09Move.B1 = true := by kernel_rfl
def spec_l09Move.T5 : Bool × List (List Nat × List Nat) := (true, [([], []), ([0], [0]), ([1], [1]), ([2], [2]), ([3, 2], [2, 3]), ([4, 2, 2], [2, 4]), ([5], [5]), ([5], [5]), ([6, 7, 5, 5], [5, 6, 7]), ([5], [5]), ([9, 5], [5, 9]), ([10, 5], [5, 10]), ([8, 11, 5], [5, 8, 11]), ([5], [5]), ([5], [5]), ([13, 14, 8, 5], [5, 13, 14]), ([5], [5]), ([16, 5], [5, 16]), ([17, 5], [5, 17]), ([15, 18, 5], [5, 15, 18]), ([12, 19, 5], [5, 12, 19]), ([5, 20, 2], [2, 5, 20]), ([2, 21], [2, 21]), ([22, 15, 0, 1, 2, 3, 4, 5, 6, 7, 8, 9, 10, 11, 12, 13, 14, 15, 16, 17, 18, 19, 20, 21, 22], [22])])
def spec_l09Move.B5 : List Nat := [0, 1, 3, 7, 15, 31, 63, 63, 255, 63, 575, 1599, 4095, 63, 63, 25087, 63, 65599, 196671, 516607, 1048575, 2097151, 4194303, 8388607]
theorem spec_l09Move.tab5 : rtab .any (opsOf Try.f35 5) = spec_l09Move.T5 := by kernel_rfl
theorem spec_l09Move.bits5 : waitsOk spec_l09Move.T5.2 spec_l09Move.B5 = true := by kernel_rfl
def spec_l09Move.T7 : Bool × List (List Nat × List Nat) := (true, [([], []), ([], []), ([1], [1]), ([2], [2]), ([0, 3], [0, 3]), ([], []), ([], []), ([5, 6], [5, 6]), ([], []), ([8], [8]), ([9], [9]), ([7, 10], [7, 10]), ([11], [11]), ([4, 12], [4, 12]), ([13, 7, 0, 1, 2, 3, 4, 5, 6, 7, 8, 9, 10, 11, 12, 13], [13])])
def spec_l09Move.B7 : List Nat := [0, 0, 2, 6, 15, 0, 0, 96, 0, 256, 768, 2016, 4064, 8191, 16383]
theorem spec_l09Move.tab7 : rtab .any (opsOf Try.f35 7) = spec_l09Move.T7 := by kernel_rfl
theorem spec_l09Move.bits7 : waitsOk spec_l09Move.T7.2 spec_l09Move.B7 = true := by kernel_rfl
def spec_l09Move.T10 : Bool × List (List Nat × List Nat) := (true, [([], []), ([], []), ([1], [1]), ([2], [2]), ([], []), ([], []), ([], []), ([], []), ([6, 7], [6, 7]), ([8], [8]), ([5, 9], [5, 9]), ([], []), ([11], [11]), ([12], [12]), ([10, 13], [10, 13]), ([14], [14]), ([0, 3, 4, 15, 8], [0, 3, 4, 15]), ([16], [16]), ([17], [17]), ([17], [17]), ([], []), ([20, 18, 16, 0, 1, 2, 3, 4, 5, 6, 7, 8, 9, 10, 11, 12, 13, 14, 15, 16, 17, 18, 20], [18, 20]), ([19, 21, 0, 1, 2, 3, 4, 5, 6, 7, 8, 9, 10, 11, 12, 13, 14, 15, 16, 17, 18, 19, 20, 21], [19])])
def spec_l09Move.B10 : List Nat := [0, 0, 2, 6, 0, 0, 0, 0, 192, 448, 992, 0, 2048, 6144, 16352, 32736, 65535, 131071, 262143, 262143, 0, 1572863, 4194303]
theorem spec_l09Move.tab10 : rtab .any (opsOf Try.f35 10) = spec_l09Move.T10 := by kernel_rfl
theorem spec_l09Move.bits10 : waitsOk spec_l09Move.T10.2 spec_l09Move.B10 = true := by kernel_rfl
set_option maxHeartbeats 8000000 in
set_option maxRecDepth 100000 in
theorem spec_l09Move.calls (k : Nat) (a0 : Int) (a1_0 : Int) (a1_1 : Int) (a1_2 : Int) (a1_3 : Int) (a2_0 : Int) (a2_1 : Int) (a2_2 : Int) (a2_3 : Bool) (r1 : Int) (r2 : Int) (r3 : Int) (r4 : Bool) (r5 : Bool) (w : World) (h : spec_l09Move.f k a0 a1_0 a1_1 a1_2 a1_3 a2_0 a2_1 a2_2 a2_3 = some (r1, r2, r3, r4, r5)) :
  Calls Try.prog 35 #[.int .i64 a0, .agg #[.int .i64 a1_0, .int .i64 a1_1, .int .i64 a1_2, .int .i64 a1_3], .agg #[.int .i64 a2_0, .int .i64 a2_1, .int .i64 a2_2, .bool a2_3]] w fun e w' => e = .returned (.tuple #[.agg #[.int .i64 r1, .int .i64 r2, .int .i64 r3, .bool r4], .bool r5]) ∧ Below w.heap.size w w' := by
 have hu33 := Try.underlying33
 have hu30 := Try.underlying30
 have hu28 := Try.underlying28
 have hu22 := Try.underlying22
 have HB := Aside0.mk (Below.refl w.heap.size w)
 have H : ((spec_l01Power.f k a0 a2_2).bind fun t591 => ((spec_l01Val.f k a0 (wrap64 ((wrap64 (a1_0 * a1_3)) - (wrap64 (a1_1 * a1_2))))).bind fun t592 => (if a1_2 = 0 then (spec_l09Move.j0 k a0 t592 (wrap64 ((wrap64 (a1_0 * a2_1)) + (wrap64 (a1_1 * t591)))) (wrap64 ((wrap64 (a1_2 * a2_1)) + (wrap64 (a1_3 * t591)))) a1_2 false a1_0 a1_1 a1_2 a1_3 a2_0 a2_1 a2_2 a2_3) else (if (wrap64 ((wrap64 (a1_2 * a2_1)) + (wrap64 (a1_3 * t591)))) = 0 then (spec_l09Move.j0 k a0 t592 (wrap64 ((wrap64 (a1_0 * a2_1)) + (wrap64 (a1_1 * t591)))) (wrap64 ((wrap64 (a1_2 * a2_1)) + (wrap64 (a1_3 * t591)))) a1_2 true a1_0 a1_1 a1_2 a1_3 a2_0 a2_1 a2_2 a2_3) else ((spec_l01Val.f k a0 (wrap64 ((wrap64 (a1_2 * a2_1)) + (wrap64 (a1_3 * t591))))).bind fun t593 => ((spec_l01Val.f k a0 a1_2).bind fun t594 => (spec_l09Move.j0 k a0 t592 (wrap64 ((wrap64 (a1_0 * a2_1)) + (wrap64 (a1_1 * t591)))) (wrap64 ((wrap64 (a1_2 * a2_1)) + (wrap64 (a1_3 * t591)))) a1_2 (decide ((wrap64 (t593 - a2_2)) ≥ (wrap64 (t594 + a2_0)))) a1_0 a1_1 a1_2 a1_3 a2_0 a2_1 a2_2 a2_3))))))) = some (r1, r2, r3, r4, r5) := h
 clear h
 replace H := Option.bind_eq_some_iff.mp H
 obtain ⟨t591, A40, H⟩ := H
 have A4 := Aside0.mk A40
 clear A40
 replace H := Option.bind_eq_some_iff.mp H
 obtain ⟨t592, A50, H⟩ := H
 have A5 := Aside0.mk A50
 clear A50
 have HC6 := Aside0.mk H
 clear H
 go_enter Try.func35, Try.ntmps35
 try go_wp2_with (first | ((with_reducible refine gate_dst (N := 4) rfl ?_); refine bx_ 4 #[.int .i64 a1_0, .int .i64 a1_1, .int .i64 a1_2, .int .i64 a1_3] 33 ?_; intro gb588 hg w7 hbox hb; have BK588 := Aside0.mk (hbox); have GW588 := bs_ HB hg; have GE588 := bs_ HB hg; replace HB := bt_ HB hb; clear hb hbox hg) | ((with_reducible refine gate_dst (N := 5) rfl ?_); refine bx_ 5 #[.int .i64 a2_0, .int .i64 a2_1, .int .i64 a2_2, .bool a2_3] 30 ?_; intro gb589 hg w8 hbox hb; have BK589 := Aside0.mk (hbox); have GW589 := bs_ HB hg; have GE589 := bs_ HB hg; have NB588_589 := bm_ BK588 hg; have NB589_588 := bn_ BK588 hg; replace BK588 := bb_ BK588 hb; replace HB := bt_ HB hb; clear hb hbox hg) | ((with_reducible refine gate_dst (N := 6) rfl ?_); refine bx_ 6 #[.int .i64 0, .int .i64 0, .int .i64 0, .bool false] 30 ?_; intro gb590 hg w9 hbox hb; have BK590 := Aside0.mk (hbox); have GW590 := bs_ HB hg; have GE590 := bs_ HB hg; have NB588_590 := bm_ BK588 hg; have NB590_588 := bn_ BK588 hg; have NB589_590 := bm_ BK589 hg; have NB590_589 := bn_ BK589 hg; replace BK588 := bb_ BK588 hb; replace BK589 := bb_ BK589 hb; replace HB := bt_ HB hb; clear hb hbox hg))
 replace BK588 := Aside0.mk (blk_drew BK588.out)
 replace BK589 := Aside0.mk (blk_drew BK589.out)
 replace BK590 := Aside0.mk (blk_drew BK590.out)
 replace HB := Aside0.mk (below_drew1 HB.out)
 refine start_ (n := 24) (S := fun w' => w'.cell? ⟨gb589, 0, none⟩ = some (.int .i64 a2_0) ∧ w'.cell? ⟨gb589, 1, none⟩ = some (.int .i64 a2_1) ∧ w'.cell? ⟨gb589, 2, none⟩ = some (.int .i64 a2_2) ∧ w'.cell? ⟨gb589, 3, none⟩ = some (.bool a2_3) ∧ w'.cell? ⟨gb588, 0, none⟩ = some (.int .i64 a1_0) ∧ w'.cell? ⟨gb588, 1, none⟩ = some (.int .i64 a1_1) ∧ w'.cell? ⟨gb588, 2, none⟩ = some (.int .i64 a1_2) ∧ w'.cell? ⟨gb588, 3, none⟩ = some (.int .i64 a1_3)) (ds := []) #[false, false, false, false, false, false, false, false, false, false, false, false, false, false, false, false, false, false, false, false, false, false, false, false] (by kernel_rfl) rfl rfl ⟨(blk_cell BK589.out 0).trans rfl, (blk_cell BK589.out 1).trans rfl, (blk_cell BK589.out 2).trans rfl, (blk_cell BK589.out 3).trans rfl, (blk_cell BK588.out 0).trans rfl, (blk_cell BK588.out 1).trans rfl, (blk_cell BK588.out 2).trans rfl, (blk_cell BK588.out 3).trans rfl⟩ (fun hHeld => ?_); refine with_tabW spec_l09Move.tab1 spec_l09Move.bits1 (fun HT_ HW_ => ?_)
 generalize w9.drew = w10 at BK588 BK589 BK590 HB hHeld ⊢
 refine pu_ HT_ 0 (some 19) #[true, false, false, false, false, false, false, false, false, false, false, false, false, false, false, false, false, false, false, false, false, false, false, false] ?_
 refine pu_ HT_ 1 (some 20) #[true, true, false, false, false, false, false, false, false, false, false, false, false, false, false, false, false, false, false, false, false, false, false, false] ?_
 refine pu_ HT_ 2 (some 21) #[true, true, true, false, false, false, false, false, false, false, false, false, false, false, false, false, false, false, false, false, false, false, false, false] ?_
 refine pu_ HT_ 5 (some 24) #[true, true, true, false, false, true, false, false, false, false, false, false, false, false, false, false, false, false, false, false, false, false, false, false] ?_
 refine pu_ HT_ 6 (some 25) #[true, true, true, false, false, true, true, false, false, false, false, false, false, false, false, false, false, false, false, false, false, false, false, false] ?_
 refine pu_ HT_ 7 (some 26) #[true, true, true, false, false, true, true, true, false, false, false, false, false, false, false, false, false, false, false, false, false, false, false, false] ?_
 refine pu_ HT_ 9 (some 28) #[true, true, true, false, false, true, true, true, false, true, false, false, false, false, false, false, false, false, false, false, false, false, false, false] ?_
 refine pu_ HT_ 10 (some 29) #[true, true, true, false, false, true, true, true, false, true, true, false, false, false, false, false, false, false, false, false, false, false, false, false] ?_
 refine pu_ HT_ 13 (some 32) #[true, true, true, false, false, true, true, true, false, true, true, false, false, true, false, false, false, false, false, false, false, false, false, false] ?_
 refine pu_ HT_ 14 (some 33) #[true, true, true, false, false, true, true, true, false, true, true, false, false, true, true, false, false, false, false, false, false, false, false, false] ?_
 refine pu_ HT_ 16 (some 35) #[true, true, true, false, false, true, true, true, false, true, true, false, false, true, true, false, true, false, false, false, false, false, false, false] ?_
 refine pu_ HT_ 17 (some 36) #[true, true, true, false, false, true, true, true, false, true, true, false, false, true, true, false, true, true, false, false, false, false, false, false] ?_
 refine ta_ HT_ HW_ 3 (some 22) #[true, true, true, true, false, true, true, true, false, true, true, false, false, true, true, false, true, true, false, false, false, false, false, false] hHeld ?_ (hy := by rintro w' ⟨s0, s1, s2, s3, s4, s5, s6, s7⟩; go_simp; with_reducible rfl)
 refine ta_ HT_ HW_ 8 (some 27) #[true, true, true, true, false, true, true, true, true, true, true, false, false, true, true, false, true, true, false, false, false, false, false, false] hHeld ?_ (hy := by rintro w' ⟨s0, s1, s2, s3, s4, s5, s6, s7⟩; go_simp; with_reducible rfl)
 refine ta_ HT_ HW_ 11 (some 30) #[true, true, true, true, false, true, true, true, true, true, true, true, false, true, true, false, true, true, false, false, false, false, false, false] hHeld ?_ (hy := by rintro w' ⟨s0, s1, s2, s3, s4, s5, s6, s7⟩; go_simp; with_reducible rfl)
 refine pu_ HT_ 12 (some 31) #[true, true, true, true, false, true, true, true, true, true, true, true, true, true, true, false, true, true, false, false, false, false, false, false] ?_
 refine ta_ HT_ HW_ 15 (some 34) #[true, true, true, true, false, true, true, true, true, true, true, true, true, true, true, true, true, true, false, false, false, false, false, false] hHeld ?_ (hy := by rintro w' ⟨s0, s1, s2, s3, s4, s5, s6, s7⟩; go_simp; with_reducible rfl)
 refine ta_ HT_ HW_ 18 (some 37) #[true, true, true, true, false, true, true, true, true, true, true, true, true, true, true, true, true, true, true, false, false, false, false, false] hHeld ?_ (hy := by rintro w' ⟨s0, s1, s2, s3, s4, s5, s6, s7⟩; go_simp; with_reducible rfl)
 refine pu_ HT_ 19 (some 38) #[true, true, true, true, false, true, true, true, true, true, true, true, true, true, true, true, true, true, true, true, false, false, false, false] ?_
 refine pu_ HT_ 20 (some 39) #[true, true, true, true, false, true, true, true, true, true, true, true, true, true, true, true, true, true, true, true, true, false, false, false] ?_
 refine one_ (i := 4) (N := some 23) #[true, true, true, true, true, true, true, true, true, true, true, true, true, true, true, true, true, true, true, true, true, false, false, false] rfl rfl (one_of HT_.out (by kernel_rfl)) (by decide) (fun K hK => ?_)
 refine goes_ Try.func72 (by kernel_rfl) rfl #[.int .i64 a0, .int .i64 a2_2] (by rfl) rfl rfl (by (try simp only [List.map_toArray, List.map_cons, List.map_nil]); first | done | rfl | (simp only [List.length_drop, List.length_take]; rfl)) ?_
 with_reducible refine (spec_l01Power.calls k a0 a2_2 t591 _ A4.out).mono ?_
 rintro e w' ⟨rfl, ⟨nd, rfl⟩⟩
 refine ⟨_, rfl, ?_⟩
 refine hK.out _ _ ⟨(blk_cell BK589.out 0).trans rfl, (blk_cell BK589.out 1).trans rfl, (blk_cell BK589.out 2).trans rfl, (blk_cell BK589.out 3).trans rfl, (blk_cell BK588.out 0).trans rfl, (blk_cell BK588.out 1).trans rfl, (blk_cell BK588.out 2).trans rfl, (blk_cell BK588.out 3).trans rfl⟩ (fun hHeld => ?_)
 clear hK K
 refine norm_ (a' := ?_) ?_ ?_
 rotate_left
 ·show Act.put _ (some 23) _ = _
  simp only [Act.put, lstS, lstZ, lstC, i64_w, i32_w]
  rfl
 refine one_ (i := 21) (N := some 40) #[true, true, true, true, true, true, true, true, true, true, true, true, true, true, true, true, true, true, true, true, true, true, false, false] rfl rfl (one_of HT_.out (by kernel_rfl)) (by decide) (fun K hK => ?_)
 refine goes_ Try.func73 (by kernel_rfl) rfl #[.int .i64 a0, .int .i64 (wrap64 ((wrap64 (a1_0 * a1_3)) - (wrap64 (a1_1 * a1_2))))] (by rfl) rfl rfl (by (try simp only [List.map_toArray, List.map_cons, List.map_nil]); first | done | rfl | (simp only [List.length_drop, List.length_take]; rfl)) ?_
 with_reducible refine (spec_l01Val.calls k a0 (wrap64 ((wrap64 (a1_0 * a1_3)) - (wrap64 (a1_1 * a1_2)))) t592 _ A5.out).mono ?_
 rintro e w' ⟨rfl, ⟨nd, rfl⟩⟩
 refine ⟨_, rfl, ?_⟩
 refine hK.out _ _ ⟨(blk_cell BK589.out 0).trans rfl, (blk_cell BK589.out 1).trans rfl, (blk_cell BK589.out 2).trans rfl, (blk_cell BK589.out 3).trans rfl, (blk_cell BK588.out 0).trans rfl, (blk_cell BK588.out 1).trans rfl, (blk_cell BK588.out 2).trans rfl, (blk_cell BK588.out 3).trans rfl⟩ (fun hHeld => ?_)
 clear hK K
 refine norm_ (a' := ?_) ?_ ?_
 rotate_left
 ·show Act.put _ (some 40) _ = _
  simp only [Act.put, lstS, lstZ, lstC, i64_w, i32_w]
  rfl
 refine pu_ HT_ 22 (some 8) #[true, true, true, true, true, true, true, true, true, true, true, true, true, true, true, true, true, true, true, true, true, true, true, false] ?_
 refine pu_ HT_ 23 (some 9) #[true, true, true, true, true, true, true, true, true, true, true, true, true, true, true, true, true, true, true, true, true, true, true, true] ?_
 refine done_ (done_of HT_.out (by kernel_rfl)) ?_
 have hnb11 := NB588_589.out
 have hnc11 := NB589_588.out
 have hnb12 := NB588_590.out
 have hnc12 := NB590_588.out
 have hcz13_0 : w10.cell? ⟨gb588, 0, none⟩ = some (.int .i64 a1_0) := (blk_cell BK588.out 0).trans rfl
 have hcz13_1 : w10.cell? ⟨gb588, 1, none⟩ = some (.int .i64 a1_1) := (blk_cell BK588.out 1).trans rfl
 have hcz13_2 : w10.cell? ⟨gb588, 2, none⟩ = some (.int .i64 a1_2) := (blk_cell BK588.out 2).trans rfl
 have hcz13_3 : w10.cell? ⟨gb588, 3, none⟩ = some (.int .i64 a1_3) := (blk_cell BK588.out 3).trans rfl
 have hfz13_0 := blk_frozen BK588.out 0
 have hfz13_1 := blk_frozen BK588.out 1
 have hfz13_2 := blk_frozen BK588.out 2
 have hfz13_3 := blk_frozen BK588.out 3
 have hnb14 := NB589_590.out
 have hnc14 := NB590_589.out
 have hcz15_0 : w10.cell? ⟨gb589, 0, none⟩ = some (.int .i64 a2_0) := (blk_cell BK589.out 0).trans rfl
 have hcz15_1 : w10.cell? ⟨gb589, 1, none⟩ = some (.int .i64 a2_1) := (blk_cell BK589.out 1).trans rfl
 have hcz15_2 : w10.cell? ⟨gb589, 2, none⟩ = some (.int .i64 a2_2) := (blk_cell BK589.out 2).trans rfl
 have hcz15_3 : w10.cell? ⟨gb589, 3, none⟩ = some (.bool a2_3) := (blk_cell BK589.out 3).trans rfl
 have hfz15_0 := blk_frozen BK589.out 0
 have hfz15_1 := blk_frozen BK589.out 1
 have hfz15_2 := blk_frozen BK589.out 2
 have hfz15_3 := blk_frozen BK589.out 3
 go_upto_region 5 with (fail)
 go_cut [13] (fun v13 wc => ∃ (kq : Nat) (x13_5 : Bool), v13 = .bool x13_5 ∧ Aside0 (spec_l09Move.j0 kq a0 t592 (wrap64 ((wrap64 (a1_0 * a2_1)) + (wrap64 (a1_1 * t591)))) (wrap64 ((wrap64 (a1_2 * a2_1)) + (wrap64 (a1_3 * t591)))) a1_2 x13_5 a1_0 a1_1 a1_2 a1_3 a2_0 a2_1 a2_2 a2_3 = some (r1, r2, r3, r4, r5)) ∧ Aside0 (kq ≤ k) ∧ Aside0 (wc.heap[gb588]? = some (.cells #[.int .i64 a1_0, .int .i64 a1_1, .int .i64 a1_2, .int .i64 a1_3] 33 (0, 0))) ∧ Aside0 (wc.heap[gb589]? = some (.cells #[.int .i64 a2_0, .int .i64 a2_1, .int .i64 a2_2, .bool a2_3] 30 (0, 0))) ∧ Aside0 (wc.heap[gb590]? = some (.cells #[.int .i64 0, .int .i64 0, .int .i64 0, .bool false] 30 (0, 0))) ∧ Aside0 (Below w.heap.size w wc))
 case first =>
  have H := HC6.out
  clear HC6
  by_cases c16 : a1_2 = 0
  ·rw [if_pos c16] at H
   have c16b0 : (a1_2 == 0) = true := beq_iff_eq.mpr c16
   have c16b1 : (a1_2 != 0) = false := bne_eq_false_iff_eq.mpr c16
   clear c16
   (first | rw [c16b0] | (simp only [i64_w, i32_w]; rw [c16b0]) | skip)
   have H' := Aside0.mk H
   clear H
   try go_wp2
   (try (rw [drewN_self w10]; generalize hq_ : World.drewN w10 _ = w10; have n0_ : Aside0 (w10.heap[gb588]? = some (.cells #[.int .i64 a1_0, .int .i64 a1_1, .int .i64 a1_2, .int .i64 a1_3] 33 (0, 0))) := ⟨by rw [← hq_]; exact (bl_ BK588).out⟩; have n1_ : Aside0 (w10.heap[gb589]? = some (.cells #[.int .i64 a2_0, .int .i64 a2_1, .int .i64 a2_2, .bool a2_3] 30 (0, 0))) := ⟨by rw [← hq_]; exact (bl_ BK589).out⟩; have n2_ : Aside0 (w10.heap[gb590]? = some (.cells #[.int .i64 0, .int .i64 0, .int .i64 0, .bool false] 30 (0, 0))) := ⟨by rw [← hq_]; exact (bl_ BK590).out⟩; have n3_ : Aside0 (Below w.heap.size w w10) := ⟨by rw [← hq_]; exact (bw_ HB).out⟩; clear BK588 BK589 BK590 HB hq_; have BK588 := n0_; have BK589 := n1_; have BK590 := n2_; have HB := n3_; clear n0_ n1_ n2_ n3_))
   replace BK588 := Aside0.mk (blk_drew BK588.out)
   replace BK589 := Aside0.mk (blk_drew BK589.out)
   replace BK590 := Aside0.mk (blk_drew BK590.out)
   replace HB := Aside0.mk (below_drew1 HB.out)
   refine start_ (n := 24) (S := fun w' => True) (ds := []) #[false, false, false, false, false, false, false, false, false, false, false, false, false, false, false, false, false, false, false, false, false, false, false, false] (by kernel_rfl) rfl rfl trivial (fun hHeld => ?_); refine with_tabW spec_l09Move.tab5 spec_l09Move.bits5 (fun HT_ HW_ => ?_)
   generalize w10.drew = w17 at BK588 BK589 BK590 HB hHeld ⊢
   refine pu_ HT_ 0 (some 70) #[true, false, false, false, false, false, false, false, false, false, false, false, false, false, false, false, false, false, false, false, false, false, false, false] ?_
   refine pu_ HT_ 1 (some 71) #[true, true, false, false, false, false, false, false, false, false, false, false, false, false, false, false, false, false, false, false, false, false, false, false] ?_
   refine pu_ HT_ 2 (some 72) #[true, true, true, false, false, false, false, false, false, false, false, false, false, false, false, false, false, false, false, false, false, false, false, false] ?_
   refine pv_ HT_ 3 (some 73) #[true, true, true, true, false, false, false, false, false, false, false, false, false, false, false, false, false, false, false, false, false, false, false, false] ?_
   refine pv_ HT_ 4 (some 74) #[true, true, true, true, true, false, false, false, false, false, false, false, false, false, false, false, false, false, false, false, false, false, false, false] ?_
   refine pv_ HT_ 5 (some 75) #[true, true, true, true, true, true, false, false, false, false, false, false, false, false, false, false, false, false, false, false, false, false, false, false] ?_
   refine pv_ HT_ 6 (some 76) #[true, true, true, true, true, true, true, false, false, false, false, false, false, false, false, false, false, false, false, false, false, false, false, false] ?_
   refine pv_ HT_ 7 (some 77) #[true, true, true, true, true, true, true, true, false, false, false, false, false, false, false, false, false, false, false, false, false, false, false, false] ?_
   refine pv_ HT_ 8 (some 78) #[true, true, true, true, true, true, true, true, true, false, false, false, false, false, false, false, false, false, false, false, false, false, false, false] ?_
   refine pv_ HT_ 9 (some 79) #[true, true, true, true, true, true, true, true, true, true, false, false, false, false, false, false, false, false, false, false, false, false, false, false] ?_
   refine pv_ HT_ 10 (some 80) #[true, true, true, true, true, true, true, true, true, true, true, false, false, false, false, false, false, false, false, false, false, false, false, false] ?_
   refine pv_ HT_ 11 (some 81) #[true, true, true, true, true, true, true, true, true, true, true, true, false, false, false, false, false, false, false, false, false, false, false, false] ?_
   refine pv_ HT_ 12 (some 82) #[true, true, true, true, true, true, true, true, true, true, true, true, true, false, false, false, false, false, false, false, false, false, false, false] ?_
   refine pv_ HT_ 13 (some 83) #[true, true, true, true, true, true, true, true, true, true, true, true, true, true, false, false, false, false, false, false, false, false, false, false] ?_
   refine pv_ HT_ 14 (some 84) #[true, true, true, true, true, true, true, true, true, true, true, true, true, true, true, false, false, false, false, false, false, false, false, false] ?_
   refine pv_ HT_ 15 (some 85) #[true, true, true, true, true, true, true, true, true, true, true, true, true, true, true, true, false, false, false, false, false, false, false, false] ?_
   refine pv_ HT_ 16 (some 86) #[true, true, true, true, true, true, true, true, true, true, true, true, true, true, true, true, true, false, false, false, false, false, false, false] ?_
   refine pv_ HT_ 17 (some 87) #[true, true, true, true, true, true, true, true, true, true, true, true, true, true, true, true, true, true, false, false, false, false, false, false] ?_
   refine pv_ HT_ 18 (some 88) #[true, true, true, true, true, true, true, true, true, true, true, true, true, true, true, true, true, true, true, false, false, false, false, false] ?_
   refine pv_ HT_ 19 (some 89) #[true, true, true, true, true, true, true, true, true, true, true, true, true, true, true, true, true, true, true, true, false, false, false, false] ?_
   refine pv_ HT_ 20 (some 90) #[true, true, true, true, true, true, true, true, true, true, true, true, true, true, true, true, true, true, true, true, true, false, false, false] ?_
   refine pv_ HT_ 21 (some 91) #[true, true, true, true, true, true, true, true, true, true, true, true, true, true, true, true, true, true, true, true, true, true, false, false] ?_
   refine pu_ HT_ 22 (some 92) #[true, true, true, true, true, true, true, true, true, true, true, true, true, true, true, true, true, true, true, true, true, true, true, false] ?_
   refine pu_ HT_ 23 (some 13) #[true, true, true, true, true, true, true, true, true, true, true, true, true, true, true, true, true, true, true, true, true, true, true, true] ?_
   refine done_ (done_of HT_.out (by kernel_rfl)) ?_
   try go_wp2
   go_meet
   case rel => exact ⟨_, (false), (by first | rfl | (simp; done) | (simp [*]; done) | (simp [wrap64]; done)), H', ⟨by first | omega | exact Nat.le_refl _⟩, bl_ BK588, bl_ BK589, bl_ BK590, bw_ HB⟩
  ·rw [if_neg c16] at H
   have c16b0 : (a1_2 == 0) = false := beq_eq_false_iff_ne.mpr c16
   have c16b1 : (a1_2 != 0) = true := bne_iff_ne.mpr c16
   (first | rw [c16b0] | (simp only [i64_w, i32_w]; rw [c16b0]) | skip)
   by_cases c18 : (wrap64 ((wrap64 (a1_2 * a2_1)) + (wrap64 (a1_3 * t591)))) = 0
   ·rw [if_pos c18] at H
    have c18b0 : ((wrap64 ((wrap64 (a1_2 * a2_1)) + (wrap64 (a1_3 * t591)))) == 0) = true := beq_iff_eq.mpr c18
    have c18b1 : ((wrap64 ((wrap64 (a1_2 * a2_1)) + (wrap64 (a1_3 * t591)))) != 0) = false := bne_eq_false_iff_eq.mpr c18
    clear c18
    have H' := Aside0.mk H
    clear H
    try go_wp2
    (try (rw [drewN_self w10]; generalize hq_ : World.drewN w10 _ = w10; have n0_ : Aside0 (w10.heap[gb588]? = some (.cells #[.int .i64 a1_0, .int .i64 a1_1, .int .i64 a1_2, .int .i64 a1_3] 33 (0, 0))) := ⟨by rw [← hq_]; exact (bl_ BK588).out⟩; have n1_ : Aside0 (w10.heap[gb589]? = some (.cells #[.int .i64 a2_0, .int .i64 a2_1, .int .i64 a2_2, .bool a2_3] 30 (0, 0))) := ⟨by rw [← hq_]; exact (bl_ BK589).out⟩; have n2_ : Aside0 (w10.heap[gb590]? = some (.cells #[.int .i64 0, .int .i64 0, .int .i64 0, .bool false] 30 (0, 0))) := ⟨by rw [← hq_]; exact (bl_ BK590).out⟩; have n3_ : Aside0 (Below w.heap.size w w10) := ⟨by rw [← hq_]; exact (bw_ HB).out⟩; clear BK588 BK589 BK590 HB hq_; have BK588 := n0_; have BK589 := n1_; have BK590 := n2_; have HB := n3_; clear n0_ n1_ n2_ n3_))
    replace BK588 := Aside0.mk (blk_drew BK588.out)
    replace BK589 := Aside0.mk (blk_drew BK589.out)
    replace BK590 := Aside0.mk (blk_drew BK590.out)
    replace HB := Aside0.mk (below_drew1 HB.out)
    refine start_ (n := 24) (S := fun w' => True) (ds := []) #[false, false, false, false, false, false, false, false, false, false, false, false, false, false, false, false, false, false, false, false, false, false, false, false] (by kernel_rfl) rfl rfl trivial (fun hHeld => ?_); refine with_tabW spec_l09Move.tab5 spec_l09Move.bits5 (fun HT_ HW_ => ?_)
    generalize w10.drew = w19 at BK588 BK589 BK590 HB hHeld ⊢
    refine pu_ HT_ 0 (some 70) #[true, false, false, false, false, false, false, false, false, false, false, false, false, false, false, false, false, false, false, false, false, false, false, false] ?_
    refine pu_ HT_ 1 (some 71) #[true, true, false, false, false, false, false, false, false, false, false, false, false, false, false, false, false, false, false, false, false, false, false, false] ?_
    refine pu_ HT_ 2 (some 72) #[true, true, true, false, false, false, false, false, false, false, false, false, false, false, false, false, false, false, false, false, false, false, false, false] ?_
    refine pu_ HT_ 3 (some 73) #[true, true, true, true, false, false, false, false, false, false, false, false, false, false, false, false, false, false, false, false, false, false, false, false] ?_
    refine pu_ HT_ 4 (some 74) #[true, true, true, true, true, false, false, false, false, false, false, false, false, false, false, false, false, false, false, false, false, false, false, false] ?_
    refine pu_ HT_ 5 (some 75) #[true, true, true, true, true, true, false, false, false, false, false, false, false, false, false, false, false, false, false, false, false, false, false, false] ?_
    refine pv_ HT_ 6 (some 76) #[true, true, true, true, true, true, true, false, false, false, false, false, false, false, false, false, false, false, false, false, false, false, false, false] ?_
    refine pv_ HT_ 7 (some 77) #[true, true, true, true, true, true, true, true, false, false, false, false, false, false, false, false, false, false, false, false, false, false, false, false] ?_
    refine pv_ HT_ 8 (some 78) #[true, true, true, true, true, true, true, true, true, false, false, false, false, false, false, false, false, false, false, false, false, false, false, false] ?_
    refine pv_ HT_ 9 (some 79) #[true, true, true, true, true, true, true, true, true, true, false, false, false, false, false, false, false, false, false, false, false, false, false, false] ?_
    refine pv_ HT_ 10 (some 80) #[true, true, true, true, true, true, true, true, true, true, true, false, false, false, false, false, false, false, false, false, false, false, false, false] ?_
    refine pv_ HT_ 11 (some 81) #[true, true, true, true, true, true, true, true, true, true, true, true, false, false, false, false, false, false, false, false, false, false, false, false] ?_
    refine pv_ HT_ 12 (some 82) #[true, true, true, true, true, true, true, true, true, true, true, true, true, false, false, false, false, false, false, false, false, false, false, false] ?_
    refine pv_ HT_ 13 (some 83) #[true, true, true, true, true, true, true, true, true, true, true, true, true, true, false, false, false, false, false, false, false, false, false, false] ?_
    refine pv_ HT_ 14 (some 84) #[true, true, true, true, true, true, true, true, true, true, true, true, true, true, true, false, false, false, false, false, false, false, false, false] ?_
    refine pv_ HT_ 15 (some 85) #[true, true, true, true, true, true, true, true, true, true, true, true, true, true, true, true, false, false, false, false, false, false, false, false] ?_
    refine pv_ HT_ 16 (some 86) #[true, true, true, true, true, true, true, true, true, true, true, true, true, true, true, true, true, false, false, false, false, false, false, false] ?_
    refine pv_ HT_ 17 (some 87) #[true, true, true, true, true, true, true, true, true, true, true, true, true, true, true, true, true, true, false, false, false, false, false, false] ?_
    refine pv_ HT_ 18 (some 88) #[true, true, true, true, true, true, true, true, true, true, true, true, true, true, true, true, true, true, true, false, false, false, false, false] ?_
    refine pv_ HT_ 19 (some 89) #[true, true, true, true, true, true, true, true, true, true, true, true, true, true, true, true, true, true, true, true, false, false, false, false] ?_
    refine pv_ HT_ 20 (some 90) #[true, true, true, true, true, true, true, true, true, true, true, true, true, true, true, true, true, true, true, true, true, false, false, false] ?_
    refine pu_ HT_ 21 (some 91) #[true, true, true, true, true, true, true, true, true, true, true, true, true, true, true, true, true, true, true, true, true, true, false, false] ?_
    refine pu_ HT_ 22 (some 92) #[true, true, true, true, true, true, true, true, true, true, true, true, true, true, true, true, true, true, true, true, true, true, true, false] ?_
    refine pu_ HT_ 23 (some 13) #[true, true, true, true, true, true, true, true, true, true, true, true, true, true, true, true, true, true, true, true, true, true, true, true] ?_
    refine done_ (done_of HT_.out (by kernel_rfl)) ?_
    try go_wp2
    go_meet
    case rel => exact ⟨_, (true), (by first | rfl | (simp; done) | (simp [*]; done) | (simp [wrap64]; done)), H', ⟨by first | omega | exact Nat.le_refl _⟩, bl_ BK588, bl_ BK589, bl_ BK590, bw_ HB⟩
   ·rw [if_neg c18] at H
    have c18b0 : ((wrap64 ((wrap64 (a1_2 * a2_1)) + (wrap64 (a1_3 * t591)))) == 0) = false := beq_eq_false_iff_ne.mpr c18
    have c18b1 : ((wrap64 ((wrap64 (a1_2 * a2_1)) + (wrap64 (a1_3 * t591)))) != 0) = true := bne_iff_ne.mpr c18
    replace H := Option.bind_eq_some_iff.mp H
    obtain ⟨t593, A200, H⟩ := H
    have A20 := Aside0.mk A200
    clear A200
    replace H := Option.bind_eq_some_iff.mp H
    obtain ⟨t594, A210, H⟩ := H
    have A21 := Aside0.mk A210
    clear A210
    have H' := Aside0.mk H
    clear H
    try go_wp2
    (try (rw [drewN_self w10]; generalize hq_ : World.drewN w10 _ = w10; have n0_ : Aside0 (w10.heap[gb588]? = some (.cells #[.int .i64 a1_0, .int .i64 a1_1, .int .i64 a1_2, .int .i64 a1_3] 33 (0, 0))) := ⟨by rw [← hq_]; exact (bl_ BK588).out⟩; have n1_ : Aside0 (w10.heap[gb589]? = some (.cells #[.int .i64 a2_0, .int .i64 a2_1, .int .i64 a2_2, .bool a2_3] 30 (0, 0))) := ⟨by rw [← hq_]; exact (bl_ BK589).out⟩; have n2_ : Aside0 (w10.heap[gb590]? = some (.cells #[.int .i64 0, .int .i64 0, .int .i64 0, .bool false] 30 (0, 0))) := ⟨by rw [← hq_]; exact (bl_ BK590).out⟩; have n3_ : Aside0 (Below w.heap.size w w10) := ⟨by rw [← hq_]; exact (bw_ HB).out⟩; clear BK588 BK589 BK590 HB hq_; have BK588 := n0_; have BK589 := n1_; have BK590 := n2_; have HB := n3_; clear n0_ n1_ n2_ n3_))
    replace BK588 := Aside0.mk (blk_drew BK588.out)
    replace BK589 := Aside0.mk (blk_drew BK589.out)
    replace BK590 := Aside0.mk (blk_drew BK590.out)
    replace HB := Aside0.mk (below_drew1 HB.out)
    refine start_ (n := 24) (S := fun w' => w'.cell? ⟨gb589, 0, none⟩ = some (.int .i64 a2_0) ∧ w'.cell? ⟨gb589, 1, none⟩ = some (.int .i64 a2_1) ∧ w'.cell? ⟨gb589, 2, none⟩ = some (.int .i64 a2_2) ∧ w'.cell? ⟨gb589, 3, none⟩ = some (.bool a2_3)) (ds := []) #[false, false, false, false, false, false, false, false, false, false, false, false, false, false, false, false, false, false, false, false, false, false, false, false] (by kernel_rfl) rfl rfl ⟨(blk_cell BK589.out 0).trans rfl, (blk_cell BK589.out 1).trans rfl, (blk_cell BK589.out 2).trans rfl, (blk_cell BK589.out 3).trans rfl⟩ (fun hHeld => ?_); refine with_tabW spec_l09Move.tab5 spec_l09Move.bits5 (fun HT_ HW_ => ?_)
    generalize w10.drew = w22 at BK588 BK589 BK590 HB hHeld ⊢
    refine pu_ HT_ 0 (some 70) #[true, false, false, false, false, false, false, false, false, false, false, false, false, false, false, false, false, false, false, false, false, false, false, false] ?_
    refine pu_ HT_ 1 (some 71) #[true, true, false, false, false, false, false, false, false, false, false, false, false, false, false, false, false, false, false, false, false, false, false, false] ?_
    refine pu_ HT_ 2 (some 72) #[true, true, true, false, false, false, false, false, false, false, false, false, false, false, false, false, false, false, false, false, false, false, false, false] ?_
    refine pu_ HT_ 3 (some 73) #[true, true, true, true, false, false, false, false, false, false, false, false, false, false, false, false, false, false, false, false, false, false, false, false] ?_
    refine pu_ HT_ 4 (some 74) #[true, true, true, true, true, false, false, false, false, false, false, false, false, false, false, false, false, false, false, false, false, false, false, false] ?_
    refine pu_ HT_ 5 (some 75) #[true, true, true, true, true, true, false, false, false, false, false, false, false, false, false, false, false, false, false, false, false, false, false, false] ?_
    refine pu_ HT_ 6 (some 76) #[true, true, true, true, true, true, true, false, false, false, false, false, false, false, false, false, false, false, false, false, false, false, false, false] ?_
    refine pu_ HT_ 7 (some 77) #[true, true, true, true, true, true, true, true, false, false, false, false, false, false, false, false, false, false, false, false, false, false, false, false] ?_
    refine pu_ HT_ 9 (some 79) #[true, true, true, true, true, true, true, true, false, true, false, false, false, false, false, false, false, false, false, false, false, false, false, false] ?_
    refine pu_ HT_ 10 (some 80) #[true, true, true, true, true, true, true, true, false, true, true, false, false, false, false, false, false, false, false, false, false, false, false, false] ?_
    refine pu_ HT_ 13 (some 83) #[true, true, true, true, true, true, true, true, false, true, true, false, false, true, false, false, false, false, false, false, false, false, false, false] ?_
    refine pu_ HT_ 14 (some 84) #[true, true, true, true, true, true, true, true, false, true, true, false, false, true, true, false, false, false, false, false, false, false, false, false] ?_
    refine pu_ HT_ 16 (some 86) #[true, true, true, true, true, true, true, true, false, true, true, false, false, true, true, false, true, false, false, false, false, false, false, false] ?_
    refine pu_ HT_ 17 (some 87) #[true, true, true, true, true, true, true, true, false, true, true, false, false, true, true, false, true, true, false, false, false, false, false, false] ?_
    refine ta_ HT_ HW_ 11 (some 81) #[true, true, true, true, true, true, true, true, false, true, true, true, false, true, true, false, true, true, false, false, false, false, false, false] hHeld ?_ (hy := by rintro w' ⟨s0, s1, s2, s3⟩; go_simp; with_reducible rfl)
    refine ta_ HT_ HW_ 18 (some 88) #[true, true, true, true, true, true, true, true, false, true, true, true, false, true, true, false, true, true, true, false, false, false, false, false] hHeld ?_ (hy := by rintro w' ⟨s0, s1, s2, s3⟩; go_simp; with_reducible rfl)
    refine one_ (i := 8) (N := some 78) #[true, true, true, true, true, true, true, true, true, true, true, true, false, true, true, false, true, true, true, false, false, false, false, false] rfl rfl (one_of HT_.out (by kernel_rfl)) (by decide) (fun K hK => ?_)
    refine goes_ Try.func73 (by kernel_rfl) rfl #[.int .i64 a0, .int .i64 (wrap64 ((wrap64 (a1_2 * a2_1)) + (wrap64 (a1_3 * t591))))] (by rfl) rfl rfl (by (try simp only [List.map_toArray, List.map_cons, List.map_nil]); first | done | rfl | (simp only [List.length_drop, List.length_take]; rfl)) ?_
    with_reducible refine (spec_l01Val.calls k a0 (wrap64 ((wrap64 (a1_2 * a2_1)) + (wrap64 (a1_3 * t591)))) t593 _ A20.out).mono ?_
    rintro e w' ⟨rfl, ⟨nd, rfl⟩⟩
    refine ⟨_, rfl, ?_⟩
    refine hK.out _ _ ⟨(blk_cell BK589.out 0).trans rfl, (blk_cell BK589.out 1).trans rfl, (blk_cell BK589.out 2).trans rfl, (blk_cell BK589.out 3).trans rfl⟩ (fun hHeld => ?_)
    clear hK K
    refine norm_ (a' := ?_) ?_ ?_
    rotate_left
    ·show Act.put _ (some 78) _ = _
     simp only [Act.put, lstS, lstZ, lstC, i64_w, i32_w]
     rfl
    refine pu_ HT_ 12 (some 82) #[true, true, true, true, true, true, true, true, true, true, true, true, true, true, true, false, true, true, true, false, false, false, false, false] ?_
    refine one_ (i := 15) (N := some 85) #[true, true, true, true, true, true, true, true, true, true, true, true, true, true, true, true, true, true, true, false, false, false, false, false] rfl rfl (one_of HT_.out (by kernel_rfl)) (by decide) (fun K hK => ?_)
    refine goes_ Try.func73 (by kernel_rfl) rfl #[.int .i64 a0, .int .i64 a1_2] (by rfl) rfl rfl (by (try simp only [List.map_toArray, List.map_cons, List.map_nil]); first | done | rfl | (simp only [List.length_drop, List.length_take]; rfl)) ?_
    with_reducible refine (spec_l01Val.calls k a0 a1_2 t594 _ A21.out).mono ?_
    rintro e w' ⟨rfl, ⟨nd, rfl⟩⟩
    refine ⟨_, rfl, ?_⟩
    refine hK.out _ _ ⟨(blk_cell BK589.out 0).trans rfl, (blk_cell BK589.out 1).trans rfl, (blk_cell BK589.out 2).trans rfl, (blk_cell BK589.out 3).trans rfl⟩ (fun hHeld => ?_)
    clear hK K
    refine norm_ (a' := ?_) ?_ ?_
    rotate_left
    ·show Act.put _ (some 85) _ = _
     simp only [Act.put, lstS, lstZ, lstC, i64_w, i32_w]
     rfl
    refine pu_ HT_ 19 (some 89) #[true, true, true, true, true, true, true, true, true, true, true, true, true, true, true, true, true, true, true, true, false, false, false, false] ?_
    refine pu_ HT_ 20 (some 90) #[true, true, true, true, true, true, true, true, true, true, true, true, true, true, true, true, true, true, true, true, true, false, false, false] ?_
    refine pu_ HT_ 21 (some 91) #[true, true, true, true, true, true, true, true, true, true, true, true, true, true, true, true, true, true, true, true, true, true, false, false] ?_
    refine pu_ HT_ 22 (some 92) #[true, true, true, true, true, true, true, true, true, true, true, true, true, true, true, true, true, true, true, true, true, true, true, false] ?_
    refine pu_ HT_ 23 (some 13) #[true, true, true, true, true, true, true, true, true, true, true, true, true, true, true, true, true, true, true, true, true, true, true, true] ?_
    refine done_ (done_of HT_.out (by kernel_rfl)) ?_
    try go_wp2
    go_meet
    case rel => exact ⟨_, (decide ((wrap64 (t593 - a2_2)) ≥ (wrap64 (t594 + a2_0)))), (by first | rfl | (simp; done) | (simp [*]; done) | (simp [wrap64]; done)), H', ⟨by first | omega | exact Nat.le_refl _⟩, bl_ BK588, bl_ BK589, bl_ BK590, bw_ HB⟩
 case rest =>
  clear HC6
  try clear c1
  try clear p2
  try clear p6
  try clear c7
  try clear c11
  try clear c12
  try clear c14
  try clear c16
  try clear c16b0
  try clear c16b1
  try clear c18
  try clear c18b0
  try clear c18b1
  try clear hcz13_0
  try clear hcz13_1
  try clear hcz13_2
  try clear hcz13_3
  try clear hcz15_0
  try clear hcz15_1
  try clear hcz15_2
  try clear hcz15_3
  try clear hfz13_0
  try clear hfz13_1
  try clear hfz13_2
  try clear hfz13_3
  try clear hfz15_0
  try clear hfz15_1
  try clear hfz15_2
  try clear hfz15_3
  obtain ⟨kq, x13_5, rfl, HA, HJ5, BK588, BK589, BK590, HB⟩ := hcut
  cases kq with
  | zero => exact absurd HA.out (by simp [spec_l09Move.j0])
  | succ kj5 =>
   have H := HA.out
   clear HA
   simp only [spec_l09Move.j0] at H
   by_cases c23 : x13_5 = true
   ·subst c23
    have H1 : ((spec_l01Val.f kj5 a0 a1_2).bind fun t595 => ((spec_l01Of.f kj5 a0 a1_0 a1_2 (wrap64 ((wrap64 ((wrap64 (t592 - (wrap64 (2 * t595)))) - a2_0)) + 1))).bind fun bt596 => (some (bt596.1, bt596.2.1, bt596.2.2.1, !a2_3, bt596.2.2.2)))) = some (r1, r2, r3, r4, r5) := by rw [if_pos rfl] at H; exact H
    clear H
    have H := H1
    clear H1
    replace H := Option.bind_eq_some_iff.mp H
    obtain ⟨t595, A240, H⟩ := H
    have A24 := Aside0.mk A240
    clear A240
    replace H := Option.bind_eq_some_iff.mp H
    obtain ⟨⟨t596, t597, t598, t599⟩, A250, H⟩ := H
    have A25 := Aside0.mk A250
    clear A250
    simp only [Option.some.injEq, Prod.mk.injEq] at H
    obtain ⟨rfl, rfl, rfl, rfl, rfl⟩ := H
    try go_wp2
    replace BK588 := Aside0.mk (blk_drew BK588.out)
    replace BK589 := Aside0.mk (blk_drew BK589.out)
    replace BK590 := Aside0.mk (blk_drew BK590.out)
    replace HB := Aside0.mk (below_drew1 HB.out)
    refine start_ (n := 23) (S := fun w' => w'.cell? ⟨gb588, 0, none⟩ = some (.int .i64 a1_0) ∧ w'.cell? ⟨gb588, 1, none⟩ = some (.int .i64 a1_1) ∧ w'.cell? ⟨gb588, 2, none⟩ = some (.int .i64 a1_2) ∧ w'.cell? ⟨gb588, 3, none⟩ = some (.int .i64 a1_3) ∧ w'.cell? ⟨gb589, 0, none⟩ = some (.int .i64 a2_0) ∧ w'.cell? ⟨gb589, 1, none⟩ = some (.int .i64 a2_1) ∧ w'.cell? ⟨gb589, 2, none⟩ = some (.int .i64 a2_2) ∧ w'.cell? ⟨gb589, 3, none⟩ = some (.bool a2_3)) (ds := []) #[false, false, false, false, false, false, false, false, false, false, false, false, false, false, false, false, false, false, false, false, false, false, false] (by kernel_rfl) rfl rfl ⟨(blk_cell BK588.out 0).trans rfl, (blk_cell BK588.out 1).trans rfl, (blk_cell BK588.out 2).trans rfl, (blk_cell BK588.out 3).trans rfl, (blk_cell BK589.out 0).trans rfl, (blk_cell BK589.out 1).trans rfl, (blk_cell BK589.out 2).trans rfl, (blk_cell BK589.out 3).trans rfl⟩ (fun hHeld => ?_); refine with_tabW spec_l09Move.tab10 spec_l09Move.bits10 (fun HT_ HW_ => ?_)
    generalize wc.drew = w26 at BK588 BK589 BK590 HB hHeld ⊢
    refine pu_ HT_ 0 (some 123) #[true, false, false, false, false, false, false, false, false, false, false, false, false, false, false, false, false, false, false, false, false, false, false] ?_
    refine pu_ HT_ 1 (some 124) #[true, true, false, false, false, false, false, false, false, false, false, false, false, false, false, false, false, false, false, false, false, false, false] ?_
    refine pu_ HT_ 2 (some 125) #[true, true, true, false, false, false, false, false, false, false, false, false, false, false, false, false, false, false, false, false, false, false, false] ?_
    refine pu_ HT_ 4 (some 127) #[true, true, true, false, true, false, false, false, false, false, false, false, false, false, false, false, false, false, false, false, false, false, false] ?_
    refine pu_ HT_ 5 (some 128) #[true, true, true, false, true, true, false, false, false, false, false, false, false, false, false, false, false, false, false, false, false, false, false] ?_
    refine pu_ HT_ 6 (some 129) #[true, true, true, false, true, true, true, false, false, false, false, false, false, false, false, false, false, false, false, false, false, false, false] ?_
    refine pu_ HT_ 7 (some 130) #[true, true, true, false, true, true, true, true, false, false, false, false, false, false, false, false, false, false, false, false, false, false, false] ?_
    refine pu_ HT_ 11 (some 134) #[true, true, true, false, true, true, true, true, false, false, false, true, false, false, false, false, false, false, false, false, false, false, false] ?_
    refine pu_ HT_ 12 (some 135) #[true, true, true, false, true, true, true, true, false, false, false, true, true, false, false, false, false, false, false, false, false, false, false] ?_
    refine ta_ HT_ HW_ 3 (some 126) #[true, true, true, true, true, true, true, true, false, false, false, true, true, false, false, false, false, false, false, false, false, false, false] hHeld ?_ (hy := by rintro w' ⟨s0, s1, s2, s3, s4, s5, s6, s7⟩; go_simp; with_reducible rfl)
    refine ta_ HT_ HW_ 13 (some 136) #[true, true, true, true, true, true, true, true, false, false, false, true, true, true, false, false, false, false, false, false, false, false, false] hHeld ?_ (hy := by rintro w' ⟨s0, s1, s2, s3, s4, s5, s6, s7⟩; go_simp; with_reducible rfl)
    refine join_ (σ := Nat) 2 #[true, true, true, true, true, true, true, true, true, true, true, true, true, true, true, true, true, true, true, true, true, false, false] (fun s_ => [(131, .int .i64 t595), (139, .tuple #[.agg #[.int .i64 t596, .int .i64 t597, .int .i64 t598], .bool t599]), (17, .pointer (some ⟨s_, 0, none⟩)), (132, .int .i64 (wrap64 (2 * t595))), (133, .int .i64 (wrap64 (t592 - (wrap64 (2 * t595))))), (137, .int .i64 (wrap64 ((wrap64 (t592 - (wrap64 (2 * t595)))) - a2_0))), (138, .int .i64 (wrap64 ((wrap64 ((wrap64 (t592 - (wrap64 (2 * t595)))) - a2_0)) + 1))), (122, .tuple #[.agg #[.int .i64 t596, .int .i64 t597, .int .i64 t598], .bool t599]), (140, .agg #[.int .i64 t596, .int .i64 t597, .int .i64 t598]), (141, .bool t599)]) (fun s_ w' => (w'.cell? ⟨gb588, 0, none⟩ = some (.int .i64 a1_0) ∧ w'.cell? ⟨gb588, 1, none⟩ = some (.int .i64 a1_1) ∧ w'.cell? ⟨gb588, 2, none⟩ = some (.int .i64 a1_2) ∧ w'.cell? ⟨gb588, 3, none⟩ = some (.int .i64 a1_3) ∧ w'.cell? ⟨gb589, 0, none⟩ = some (.int .i64 a2_0) ∧ w'.cell? ⟨gb589, 1, none⟩ = some (.int .i64 a2_1) ∧ w'.cell? ⟨gb589, 2, none⟩ = some (.int .i64 a2_2) ∧ w'.cell? ⟨gb589, 3, none⟩ = some (.bool a2_3)) ∧ (w'.heap[gb588]? = some (.cells #[.int .i64 a1_0, .int .i64 a1_1, .int .i64 a1_2, .int .i64 a1_3] 33 (0, 0))) ∧ (w'.heap[gb589]? = some (.cells #[.int .i64 a2_0, .int .i64 a2_1, .int .i64 a2_2, .bool a2_3] 30 (0, 0))) ∧ (w'.heap[gb590]? = some (.cells #[.int .i64 0, .int .i64 0, .int .i64 0, .bool false] 30 (0, 0))) ∧ (w'.heap[s_]? = some (.cells #[.int .i64 0, .int .i64 0, .int .i64 0] 28 (0, 0))) ∧ (w.heap.size ≤ s_) ∧ (w.heap.size ≤ s_) ∧ (gb588 ≠ s_) ∧ (s_ ≠ gb588) ∧ (gb589 ≠ s_) ∧ (s_ ≠ gb589) ∧ (gb590 ≠ s_) ∧ (s_ ≠ gb590) ∧ (Below w.heap.size w w')) ?_ ?_
    rotate_left
    ·intro hCont
     refine two_ (i := 8) (j := 20) (Ni := some 131) (Nj := some 17) #[true, true, true, true, true, true, true, true, true, false, false, true, true, true, false, false, false, false, false, false, false, false, false] #[true, true, true, true, true, true, true, true, false, false, false, true, true, true, false, false, false, false, false, false, true, false, false] rfl rfl rfl rfl (two_of HT_.out (by kernel_rfl)) (by decide) (by decide) (fun K hK => ?_) (fun K hK => ?_)
     ·skip
      refine goes_ Try.func73 (by kernel_rfl) rfl #[.int .i64 a0, .int .i64 a1_2] (by rfl) rfl rfl (by (try simp only [List.map_toArray, List.map_cons, List.map_nil]); first | done | rfl | (simp only [List.length_drop, List.length_take]; rfl)) ?_
      with_reducible refine (spec_l01Val.calls kj5 a0 a1_2 t595 _ A24.out).mono ?_
      rintro e w' ⟨rfl, ⟨nd, rfl⟩⟩
      refine ⟨_, rfl, ?_⟩
      refine hK.out _ _ ⟨(blk_cell BK588.out 0).trans rfl, (blk_cell BK588.out 1).trans rfl, (blk_cell BK588.out 2).trans rfl, (blk_cell BK588.out 3).trans rfl, (blk_cell BK589.out 0).trans rfl, (blk_cell BK589.out 1).trans rfl, (blk_cell BK589.out 2).trans rfl, (blk_cell BK589.out 3).trans rfl⟩ (fun hHeld => ?_)
      clear hK K
      refine norm_ (a' := ?_) ?_ ?_
      rotate_left
      ·show Act.put _ (some 131) _ = _
       simp only [Act.put, lstS, lstZ, lstC, i64_w, i32_w]
       rfl
      refine pu_ HT_ 9 (some 132) #[true, true, true, true, true, true, true, true, true, true, false, true, true, true, false, false, false, false, false, false, false, false, false] ?_
      refine pu_ HT_ 10 (some 133) #[true, true, true, true, true, true, true, true, true, true, true, true, true, true, false, false, false, false, false, false, false, false, false] ?_
      refine pu_ HT_ 14 (some 137) #[true, true, true, true, true, true, true, true, true, true, true, true, true, true, true, false, false, false, false, false, false, false, false] ?_
      refine pu_ HT_ 15 (some 138) #[true, true, true, true, true, true, true, true, true, true, true, true, true, true, true, true, false, false, false, false, false, false, false] ?_
      refine two_ (i := 16) (j := 20) (Ni := some 139) (Nj := some 17) #[true, true, true, true, true, true, true, true, true, true, true, true, true, true, true, true, true, false, false, false, false, false, false] #[true, true, true, true, true, true, true, true, true, true, true, true, true, true, true, true, false, false, false, false, true, false, false] rfl rfl rfl rfl (two_of HT_.out (by kernel_rfl)) (by decide) (by decide) (fun K hK => ?_) (fun K hK => ?_)
      ·skip
       refine goes_ Try.func74 (by kernel_rfl) rfl #[.int .i64 a0, .int .i64 a1_0, .int .i64 a1_2, .int .i64 (wrap64 ((wrap64 ((wrap64 (t592 - (wrap64 (2 * t595)))) - a2_0)) + 1))] (by rfl) rfl rfl (by (try simp only [List.map_toArray, List.map_cons, List.map_nil]); first | done | rfl | (simp only [List.length_drop, List.length_take]; rfl)) ?_
       with_reducible refine (spec_l01Of.calls kj5 a0 a1_0 a1_2 (wrap64 ((wrap64 ((wrap64 (t592 - (wrap64 (2 * t595)))) - a2_0)) + 1)) t596 t597 t598 t599 _ A25.out).mono ?_
       rintro e w27 ⟨rfl, hb⟩
       refine ⟨_, rfl, ?_⟩
       replace BK588 := bb_ BK588 hb
       replace BK589 := bb_ BK589 hb
       replace BK590 := bb_ BK590 hb
       replace HB := bt_ HB hb
       (try clear hb)
       (try clear hb2)
       (try clear hk)
       (try clear hi)
       refine hK.out _ _ ⟨(blk_cell BK588.out 0).trans rfl, (blk_cell BK588.out 1).trans rfl, (blk_cell BK588.out 2).trans rfl, (blk_cell BK588.out 3).trans rfl, (blk_cell BK589.out 0).trans rfl, (blk_cell BK589.out 1).trans rfl, (blk_cell BK589.out 2).trans rfl, (blk_cell BK589.out 3).trans rfl⟩ (fun hHeld => ?_)
       clear hK K
       refine norm_ (a' := ?_) ?_ ?_
       rotate_left
       ·show Act.put _ (some 139) _ = _
        simp only [Act.put, lstS, lstZ, lstC, i64_w, i32_w]
        rfl
       refine pu_ HT_ 17 (some 122) #[true, true, true, true, true, true, true, true, true, true, true, true, true, true, true, true, true, true, false, false, false, false, false] ?_
       refine pu_ HT_ 18 (some 140) #[true, true, true, true, true, true, true, true, true, true, true, true, true, true, true, true, true, true, true, false, false, false, false] ?_
       refine pu_ HT_ 19 (some 141) #[true, true, true, true, true, true, true, true, true, true, true, true, true, true, true, true, true, true, true, true, false, false, false] ?_
       refine one_ (i := 20) (N := some 17) #[true, true, true, true, true, true, true, true, true, true, true, true, true, true, true, true, true, true, true, true, true, false, false] rfl rfl (one_of HT_.out (by kernel_rfl)) (by decide) (fun K hK => ?_)
       refine box_step ?hg (N := 17) ?hd (cs := #[.int .i64 0, .int .i64 0, .int .i64 0]) (t := 28) ?hr ?_; (case hd => rfl); (case hg => rfl); (case hr => first | (go_simp; done) | (go_simp; rfl))
       intro gb600 hg w28 hbox hb
       have BK600 := Aside0.mk (hbox)
       have GW600 := bs_ HB hg
       have GE600 := bs_ HB hg
       have NB588_600 := bm_ BK588 hg
       have NB600_588 := bn_ BK588 hg
       have NB589_600 := bm_ BK589 hg
       have NB600_589 := bn_ BK589 hg
       have NB590_600 := bm_ BK590 hg
       have NB600_590 := bn_ BK590 hg
       replace BK588 := bb_ BK588 hb
       replace BK589 := bb_ BK589 hb
       replace BK590 := bb_ BK590 hb
       replace HB := bt_ HB hb
       clear hb hbox hg
       refine hK.out _ _ ⟨(blk_cell BK588.out 0).trans rfl, (blk_cell BK588.out 1).trans rfl, (blk_cell BK588.out 2).trans rfl, (blk_cell BK588.out 3).trans rfl, (blk_cell BK589.out 0).trans rfl, (blk_cell BK589.out 1).trans rfl, (blk_cell BK589.out 2).trans rfl, (blk_cell BK589.out 3).trans rfl⟩ (fun hHeld => ?_)
       clear hK K
       refine norm_ (a' := ?_) ?_ ?_
       rotate_left
       ·show Act.put _ (some 17) _ = _
        simp only [Act.put, lstS, lstZ, lstC, i64_w, i32_w]
        rfl
       exact norm_ (by simp only [putAll, Act.put, lstS, lstZ, lstC]) (hCont (gb600) _ ⟨hHeld, (bl_ BK588).out, (bl_ BK589).out, (bl_ BK590).out, (bl_ BK600).out, GW600.out, GE600.out, NB588_600.out, NB600_588.out, NB589_600.out, NB600_589.out, NB590_600.out, NB600_590.out, (bw_ HB).out⟩)
      ·skip
       refine box_step ?hg (N := 17) ?hd (cs := #[.int .i64 0, .int .i64 0, .int .i64 0]) (t := 28) ?hr ?_; (case hd => rfl); (case hg => rfl); (case hr => first | (go_simp; done) | (go_simp; rfl))
       intro gb600 hg w27 hbox hb
       have BK600 := Aside0.mk (hbox)
       have GW600 := bs_ HB hg
       have GE600 := bs_ HB hg
       have NB588_600 := bm_ BK588 hg
       have NB600_588 := bn_ BK588 hg
       have NB589_600 := bm_ BK589 hg
       have NB600_589 := bn_ BK589 hg
       have NB590_600 := bm_ BK590 hg
       have NB600_590 := bn_ BK590 hg
       replace BK588 := bb_ BK588 hb
       replace BK589 := bb_ BK589 hb
       replace BK590 := bb_ BK590 hb
       replace HB := bt_ HB hb
       clear hb hbox hg
       refine hK.out _ _ ⟨(blk_cell BK588.out 0).trans rfl, (blk_cell BK588.out 1).trans rfl, (blk_cell BK588.out 2).trans rfl, (blk_cell BK588.out 3).trans rfl, (blk_cell BK589.out 0).trans rfl, (blk_cell BK589.out 1).trans rfl, (blk_cell BK589.out 2).trans rfl, (blk_cell BK589.out 3).trans rfl⟩ (fun hHeld => ?_)
       clear hK K
       refine norm_ (a' := ?_) ?_ ?_
       rotate_left
       ·show Act.put _ (some 17) _ = _
        simp only [Act.put, lstS, lstZ, lstC, i64_w, i32_w]
        rfl
       refine one_ (i := 16) (N := some 139) #[true, true, true, true, true, true, true, true, true, true, true, true, true, true, true, true, true, false, false, false, true, false, false] rfl rfl (one_of HT_.out (by kernel_rfl)) (by decide) (fun K hK => ?_)
       refine goes_ Try.func74 (by kernel_rfl) rfl #[.int .i64 a0, .int .i64 a1_0, .int .i64 a1_2, .int .i64 (wrap64 ((wrap64 ((wrap64 (t592 - (wrap64 (2 * t595)))) - a2_0)) + 1))] (by rfl) rfl rfl (by (try simp only [List.map_toArray, List.map_cons, List.map_nil]); first | done | rfl | (simp only [List.length_drop, List.length_take]; rfl)) ?_
       with_reducible refine (spec_l01Of.calls kj5 a0 a1_0 a1_2 (wrap64 ((wrap64 ((wrap64 (t592 - (wrap64 (2 * t595)))) - a2_0)) + 1)) t596 t597 t598 t599 _ A25.out).mono ?_
       rintro e w28 ⟨rfl, hb⟩
       refine ⟨_, rfl, ?_⟩
       replace BK588 := bb_ BK588 hb
       replace BK589 := bb_ BK589 hb
       replace BK590 := bb_ BK590 hb
       replace BK600 := bb_ BK600 hb
       replace HB := bt_ HB hb
       (try clear hb)
       (try clear hb2)
       (try clear hk)
       (try clear hi)
       refine hK.out _ _ ⟨(blk_cell BK588.out 0).trans rfl, (blk_cell BK588.out 1).trans rfl, (blk_cell BK588.out 2).trans rfl, (blk_cell BK588.out 3).trans rfl, (blk_cell BK589.out 0).trans rfl, (blk_cell BK589.out 1).trans rfl, (blk_cell BK589.out 2).trans rfl, (blk_cell BK589.out 3).trans rfl⟩ (fun hHeld => ?_)
       clear hK K
       refine norm_ (a' := ?_) ?_ ?_
       rotate_left
       ·show Act.put _ (some 139) _ = _
        simp only [Act.put, lstS, lstZ, lstC, i64_w, i32_w]
        rfl
       refine pu_ HT_ 17 (some 122) #[true, true, true, true, true, true, true, true, true, true, true, true, true, true, true, true, true, true, false, false, true, false, false] ?_
       refine pu_ HT_ 18 (some 140) #[true, true, true, true, true, true, true, true, true, true, true, true, true, true, true, true, true, true, true, false, true, false, false] ?_
       refine pu_ HT_ 19 (some 141) #[true, true, true, true, true, true, true, true, true, true, true, true, true, true, true, true, true, true, true, true, true, false, false] ?_
       exact norm_ (by simp only [putAll, Act.put, lstS, lstZ, lstC]) (hCont (gb600) _ ⟨hHeld, (bl_ BK588).out, (bl_ BK589).out, (bl_ BK590).out, (bl_ BK600).out, GW600.out, GE600.out, NB588_600.out, NB600_588.out, NB589_600.out, NB600_589.out, NB590_600.out, NB600_590.out, (bw_ HB).out⟩)
     ·skip
      refine box_step ?hg (N := 17) ?hd (cs := #[.int .i64 0, .int .i64 0, .int .i64 0]) (t := 28) ?hr ?_; (case hd => rfl); (case hg => rfl); (case hr => first | (go_simp; done) | (go_simp; rfl))
      intro gb600 hg w27 hbox hb
      have BK600 := Aside0.mk (hbox)
      have GW600 := bs_ HB hg
      have GE600 := bs_ HB hg
      have NB588_600 := bm_ BK588 hg
      have NB600_588 := bn_ BK588 hg
      have NB589_600 := bm_ BK589 hg
      have NB600_589 := bn_ BK589 hg
      have NB590_600 := bm_ BK590 hg
      have NB600_590 := bn_ BK590 hg
      replace BK588 := bb_ BK588 hb
      replace BK589 := bb_ BK589 hb
      replace BK590 := bb_ BK590 hb
      replace HB := bt_ HB hb
      clear hb hbox hg
      refine hK.out _ _ ⟨(blk_cell BK588.out 0).trans rfl, (blk_cell BK588.out 1).trans rfl, (blk_cell BK588.out 2).trans rfl, (blk_cell BK588.out 3).trans rfl, (blk_cell BK589.out 0).trans rfl, (blk_cell BK589.out 1).trans rfl, (blk_cell BK589.out 2).trans rfl, (blk_cell BK589.out 3).trans rfl⟩ (fun hHeld => ?_)
      clear hK K
      refine norm_ (a' := ?_) ?_ ?_
      rotate_left
      ·show Act.put _ (some 17) _ = _
       simp only [Act.put, lstS, lstZ, lstC, i64_w, i32_w]
       rfl
      refine one_ (i := 8) (N := some 131) #[true, true, true, true, true, true, true, true, true, false, false, true, true, true, false, false, false, false, false, false, true, false, false] rfl rfl (one_of HT_.out (by kernel_rfl)) (by decide) (fun K hK => ?_)
      refine goes_ Try.func73 (by kernel_rfl) rfl #[.int .i64 a0, .int .i64 a1_2] (by rfl) rfl rfl (by (try simp only [List.map_toArray, List.map_cons, List.map_nil]); first | done | rfl | (simp only [List.length_drop, List.length_take]; rfl)) ?_
      with_reducible refine (spec_l01Val.calls kj5 a0 a1_2 t595 _ A24.out).mono ?_
      rintro e w' ⟨rfl, ⟨nd, rfl⟩⟩
      refine ⟨_, rfl, ?_⟩
      refine hK.out _ _ ⟨(blk_cell BK588.out 0).trans rfl, (blk_cell BK588.out 1).trans rfl, (blk_cell BK588.out 2).trans rfl, (blk_cell BK588.out 3).trans rfl, (blk_cell BK589.out 0).trans rfl, (blk_cell BK589.out 1).trans rfl, (blk_cell BK589.out 2).trans rfl, (blk_cell BK589.out 3).trans rfl⟩ (fun hHeld => ?_)
      clear hK K
      refine norm_ (a' := ?_) ?_ ?_
      rotate_left
      ·show Act.put _ (some 131) _ = _
       simp only [Act.put, lstS, lstZ, lstC, i64_w, i32_w]
       rfl
      refine pu_ HT_ 9 (some 132) #[true, true, true, true, true, true, true, true, true, true, false, true, true, true, false, false, false, false, false, false, true, false, false] ?_
      refine pu_ HT_ 10 (some 133) #[true, true, true, true, true, true, true, true, true, true, true, true, true, true, false, false, false, false, false, false, true, false, false] ?_
      refine pu_ HT_ 14 (some 137) #[true, true, true, true, true, true, true, true, true, true, true, true, true, true, true, false, false, false, false, false, true, false, false] ?_
      refine pu_ HT_ 15 (some 138) #[true, true, true, true, true, true, true, true, true, true, true, true, true, true, true, true, false, false, false, false, true, false, false] ?_
      refine one_ (i := 16) (N := some 139) #[true, true, true, true, true, true, true, true, true, true, true, true, true, true, true, true, true, false, false, false, true, false, false] rfl rfl (one_of HT_.out (by kernel_rfl)) (by decide) (fun K hK => ?_)
      refine goes_ Try.func74 (by kernel_rfl) rfl #[.int .i64 a0, .int .i64 a1_0, .int .i64 a1_2, .int .i64 (wrap64 ((wrap64 ((wrap64 (t592 - (wrap64 (2 * t595)))) - a2_0)) + 1))] (by rfl) rfl rfl (by (try simp only [List.map_toArray, List.map_cons, List.map_nil]); first | done | rfl | (simp only [List.length_drop, List.length_take]; rfl)) ?_
      with_reducible refine (spec_l01Of.calls kj5 a0 a1_0 a1_2 (wrap64 ((wrap64 ((wrap64 (t592 - (wrap64 (2 * t595)))) - a2_0)) + 1)) t596 t597 t598 t599 _ A25.out).mono ?_
      rintro e w28 ⟨rfl, hb⟩
      refine ⟨_, rfl, ?_⟩
      replace BK588 := bb_ BK588 hb
      replace BK589 := bb_ BK589 hb
      replace BK590 := bb_ BK590 hb
      replace BK600 := bb_ BK600 hb
      replace HB := bt_ HB hb
      (try clear hb)
      (try clear hb2)
      (try clear hk)
      (try clear hi)
      refine hK.out _ _ ⟨(blk_cell BK588.out 0).trans rfl, (blk_cell BK588.out 1).trans rfl, (blk_cell BK588.out 2).trans rfl, (blk_cell BK588.out 3).trans rfl, (blk_cell BK589.out 0).trans rfl, (blk_cell BK589.out 1).trans rfl, (blk_cell BK589.out 2).trans rfl, (blk_cell BK589.out 3).trans rfl⟩ (fun hHeld => ?_)
      clear hK K
      refine norm_ (a' := ?_) ?_ ?_
      rotate_left
      ·show Act.put _ (some 139) _ = _
       simp only [Act.put, lstS, lstZ, lstC, i64_w, i32_w]
       rfl
      refine pu_ HT_ 17 (some 122) #[true, true, true, true, true, true, true, true, true, true, true, true, true, true, true, true, true, true, false, false, true, false, false] ?_
      refine pu_ HT_ 18 (some 140) #[true, true, true, true, true, true, true, true, true, true, true, true, true, true, true, true, true, true, true, false, true, false, false] ?_
      refine pu_ HT_ 19 (some 141) #[true, true, true, true, true, true, true, true, true, true, true, true, true, true, true, true, true, true, true, true, true, false, false] ?_
      exact norm_ (by simp only [putAll, Act.put, lstS, lstZ, lstC]) (hCont (gb600) _ ⟨hHeld, (bl_ BK588).out, (bl_ BK589).out, (bl_ BK590).out, (bl_ BK600).out, GW600.out, GE600.out, NB588_600.out, NB600_588.out, NB589_600.out, NB600_589.out, NB590_600.out, NB600_590.out, (bw_ HB).out⟩)
    rintro gb600 w29 ⟨hS_, h0_, h1_, h2_, h3_, h4_, h5_, h6_, h7_, h8_, h9_, h10_, h11_, h12_⟩
    have n0_ : Aside0 (w29.heap[gb588]? = some (.cells #[.int .i64 a1_0, .int .i64 a1_1, .int .i64 a1_2, .int .i64 a1_3] 33 (0, 0))) := ⟨h0_⟩
    have n1_ : Aside0 (w29.heap[gb589]? = some (.cells #[.int .i64 a2_0, .int .i64 a2_1, .int .i64 a2_2, .bool a2_3] 30 (0, 0))) := ⟨h1_⟩
    have n2_ : Aside0 (w29.heap[gb590]? = some (.cells #[.int .i64 0, .int .i64 0, .int .i64 0, .bool false] 30 (0, 0))) := ⟨h2_⟩
    have n3_ : Aside0 (w29.heap[gb600]? = some (.cells #[.int .i64 0, .int .i64 0, .int .i64 0] 28 (0, 0))) := ⟨h3_⟩
    have n4_ : Aside0 (w.heap.size ≤ gb600) := ⟨h4_⟩
    have n5_ : Aside0 (w.heap.size ≤ gb600) := ⟨h5_⟩
    have n6_ : Aside0 (gb588 ≠ gb600) := ⟨h6_⟩
    have n7_ : Aside0 (gb600 ≠ gb588) := ⟨h7_⟩
    have n8_ : Aside0 (gb589 ≠ gb600) := ⟨h8_⟩
    have n9_ : Aside0 (gb600 ≠ gb589) := ⟨h9_⟩
    have n10_ : Aside0 (gb590 ≠ gb600) := ⟨h10_⟩
    have n11_ : Aside0 (gb600 ≠ gb590) := ⟨h11_⟩
    have n12_ : Aside0 (Below w.heap.size w w29) := ⟨h12_⟩
    clear BK588
    clear BK589
    clear BK590
    clear HB
    clear h0_ h1_ h2_ h3_ h4_ h5_ h6_ h7_ h8_ h9_ h10_ h11_ h12_
    have BK588 := n0_
    have BK589 := n1_
    have BK590 := n2_
    have BK600 := n3_
    have GW600 := n4_
    have GE600 := n5_
    have NB588_600 := n6_
    have NB600_588 := n7_
    have NB589_600 := n8_
    have NB600_589 := n9_
    have NB590_600 := n10_
    have NB600_590 := n11_
    have HB := n12_
    clear n0_ n1_ n2_ n3_ n4_ n5_ n6_ n7_ n8_ n9_ n10_ n11_ n12_
    have hHeld : w29.cell? ⟨gb588, 0, none⟩ = some (.int .i64 a1_0) ∧ w29.cell? ⟨gb588, 1, none⟩ = some (.int .i64 a1_1) ∧ w29.cell? ⟨gb588, 2, none⟩ = some (.int .i64 a1_2) ∧ w29.cell? ⟨gb588, 3, none⟩ = some (.int .i64 a1_3) ∧ w29.cell? ⟨gb589, 0, none⟩ = some (.int .i64 a2_0) ∧ w29.cell? ⟨gb589, 1, none⟩ = some (.int .i64 a2_1) ∧ w29.cell? ⟨gb589, 2, none⟩ = some (.int .i64 a2_2) ∧ w29.cell? ⟨gb589, 3, none⟩ = some (.bool a2_3) := hS_
    refine norm_ (a' := ?_) ?_ ?_
    rotate_left
    ·simp only [putAll, Act.put, lstS, lstZ, lstC]
     rfl
    refine one_ (i := 21) (N := none) #[true, true, true, true, true, true, true, true, true, true, true, true, true, true, true, true, true, true, true, true, true, true, false] rfl rfl (one_of HT_.out (by kernel_rfl)) (by decide) (fun K hK => ?_)
    have hs30 : w29.cell? ⟨gb600, 0, none⟩ = some (.int .i64 0) := (blk_cell BK600.out 0).trans rfl
    have hfs30 := blk_frozen BK600.out 0
    have hns30_0 := NB588_600.out
    have hns30_1 := NB589_600.out
    have hns30_2 := NB590_600.out
    have hms30_0 := NB600_588.out
    have hms30_1 := NB600_589.out
    have hms30_2 := NB600_590.out
    have hs31 : w29.cell? ⟨gb600, 1, none⟩ = some (.int .i64 0) := (blk_cell BK600.out 1).trans rfl
    have hfs31 := blk_frozen BK600.out 1
    have hns31_0 := NB588_600.out
    have hns31_1 := NB589_600.out
    have hns31_2 := NB590_600.out
    have hms31_0 := NB600_588.out
    have hms31_1 := NB600_589.out
    have hms31_2 := NB600_590.out
    have hs32 : w29.cell? ⟨gb600, 2, none⟩ = some (.int .i64 0) := (blk_cell BK600.out 2).trans rfl
    have hfs32 := blk_frozen BK600.out 2
    have hns32_0 := NB588_600.out
    have hns32_1 := NB589_600.out
    have hns32_2 := NB590_600.out
    have hms32_0 := NB600_588.out
    have hms32_1 := NB600_589.out
    have hms32_2 := NB600_590.out
    refine skip_ (w1 := ?_) (by rfl) rfl ?_ ?_
    rotate_left
    ·go_simp
     rfl
    refine hK.out _ _ ⟨((cell_far (p := ⟨gb600, _, none⟩) NB588_600.out _).trans (((cell_far (p := ⟨gb600, _, none⟩) NB588_600.out _).trans (((cell_far (p := ⟨gb600, _, none⟩) NB588_600.out _).trans (hHeld.1)))))), ((cell_far (p := ⟨gb600, _, none⟩) NB588_600.out _).trans (((cell_far (p := ⟨gb600, _, none⟩) NB588_600.out _).trans (((cell_far (p := ⟨gb600, _, none⟩) NB588_600.out _).trans (hHeld.2.1)))))), ((cell_far (p := ⟨gb600, _, none⟩) NB588_600.out _).trans (((cell_far (p := ⟨gb600, _, none⟩) NB588_600.out _).trans (((cell_far (p := ⟨gb600, _, none⟩) NB588_600.out _).trans (hHeld.2.2.1)))))), ((cell_far (p := ⟨gb600, _, none⟩) NB588_600.out _).trans (((cell_far (p := ⟨gb600, _, none⟩) NB588_600.out _).trans (((cell_far (p := ⟨gb600, _, none⟩) NB588_600.out _).trans (hHeld.2.2.2.1)))))), ((cell_far (p := ⟨gb600, _, none⟩) NB589_600.out _).trans (((cell_far (p := ⟨gb600, _, none⟩) NB589_600.out _).trans (((cell_far (p := ⟨gb600, _, none⟩) NB589_600.out _).trans (hHeld.2.2.2.2.1)))))), ((cell_far (p := ⟨gb600, _, none⟩) NB589_600.out _).trans (((cell_far (p := ⟨gb600, _, none⟩) NB589_600.out _).trans (((cell_far (p := ⟨gb600, _, none⟩) NB589_600.out _).trans (hHeld.2.2.2.2.2.1)))))), ((cell_far (p := ⟨gb600, _, none⟩) NB589_600.out _).trans (((cell_far (p := ⟨gb600, _, none⟩) NB589_600.out _).trans (((cell_far (p := ⟨gb600, _, none⟩) NB589_600.out _).trans (hHeld.2.2.2.2.2.2.1)))))), ((cell_far (p := ⟨gb600, _, none⟩) NB589_600.out _).trans (((cell_far (p := ⟨gb600, _, none⟩) NB589_600.out _).trans (((cell_far (p := ⟨gb600, _, none⟩) NB589_600.out _).trans (hHeld.2.2.2.2.2.2.2))))))⟩ (fun hHeld => ?_)
    clear hK K
    refine pu_ HT_ 22 (some 18) #[true, true, true, true, true, true, true, true, true, true, true, true, true, true, true, true, true, true, true, true, true, true, true] ?_
    refine done_ (done_of HT_.out (by kernel_rfl)) ?_
    have hnb33 := NB600_588.out
    have hnc33 := NB588_600.out
    have hnb34 := NB600_589.out
    have hnc34 := NB589_600.out
    have hnb35 := NB600_590.out
    have hnc35 := NB590_600.out
    have hcz36_0 : w29.cell? ⟨gb600, 0, none⟩ = some (.int .i64 0) := (blk_cell BK600.out 0).trans rfl
    have hcz36_1 : w29.cell? ⟨gb600, 1, none⟩ = some (.int .i64 0) := (blk_cell BK600.out 1).trans rfl
    have hcz36_2 : w29.cell? ⟨gb600, 2, none⟩ = some (.int .i64 0) := (blk_cell BK600.out 2).trans rfl
    have hfz36_0 := blk_frozen BK600.out 0
    have hfz36_1 := blk_frozen BK600.out 1
    have hfz36_2 := blk_frozen BK600.out 2
    have hnb37 := NB589_588.out
    have hnc37 := NB588_589.out
    have hnb38 := NB589_590.out
    have hnc38 := NB590_589.out
    have hcz39_0 : w29.cell? ⟨gb589, 0, none⟩ = some (.int .i64 a2_0) := (blk_cell BK589.out 0).trans rfl
    have hcz39_1 : w29.cell? ⟨gb589, 1, none⟩ = some (.int .i64 a2_1) := (blk_cell BK589.out 1).trans rfl
    have hcz39_2 : w29.cell? ⟨gb589, 2, none⟩ = some (.int .i64 a2_2) := (blk_cell BK589.out 2).trans rfl
    have hcz39_3 : w29.cell? ⟨gb589, 3, none⟩ = some (.bool a2_3) := (blk_cell BK589.out 3).trans rfl
    have hfz39_0 := blk_frozen BK589.out 0
    have hfz39_1 := blk_frozen BK589.out 1
    have hfz39_2 := blk_frozen BK589.out 2
    have hfz39_3 := blk_frozen BK589.out 3
    have hnb40 := NB590_588.out
    have hnc40 := NB588_590.out
    have hcz41_0 : w29.cell? ⟨gb590, 0, none⟩ = some (.int .i64 0) := (blk_cell BK590.out 0).trans rfl
    have hcz41_1 : w29.cell? ⟨gb590, 1, none⟩ = some (.int .i64 0) := (blk_cell BK590.out 1).trans rfl
    have hcz41_2 : w29.cell? ⟨gb590, 2, none⟩ = some (.int .i64 0) := (blk_cell BK590.out 2).trans rfl
    have hcz41_3 : w29.cell? ⟨gb590, 3, none⟩ = some (.bool false) := (blk_cell BK590.out 3).trans rfl
    have hfz41_0 := blk_frozen BK590.out 0
    have hfz41_1 := blk_frozen BK590.out 1
    have hfz41_2 := blk_frozen BK590.out 2
    have hfz41_3 := blk_frozen BK590.out 3
    try go_wp2
    refine bodyPost_ret (results_ct rfl _ _ gb590 30 #[.int .i64 t596, .int .i64 t597, .int .i64 t598, .bool (!a2_3)] (0, 0) _ rfl (by (with_reducible repeat first | apply blk_drewN | apply blk_drew | apply blk_alloc); refine blk_put (cs := #[.int .i64 t596, .int .i64 t597, .int .i64 t598, .bool false]) ?_ 3 _ rfl; (with_reducible repeat first | apply blk_drewN | apply blk_drew | apply blk_alloc); refine blk_put (cs := #[.int .i64 t596, .int .i64 t597, .int .i64 0, .bool false]) ?_ 2 _ rfl; (with_reducible repeat first | apply blk_drewN | apply blk_drew | apply blk_alloc); refine blk_put (cs := #[.int .i64 t596, .int .i64 0, .int .i64 0, .bool false]) ?_ 1 _ rfl; (with_reducible repeat first | apply blk_drewN | apply blk_drew | apply blk_alloc); refine blk_put (cs := #[.int .i64 0, .int .i64 0, .int .i64 0, .bool false]) ?_ 0 _ rfl; (with_reducible repeat first | apply blk_drewN | apply blk_drew | apply blk_alloc); refine blk_far ?_ NB590_600.out _; (with_reducible repeat first | apply blk_drewN | apply blk_drew | apply blk_alloc); refine blk_far ?_ NB590_600.out _; (with_reducible repeat first | apply blk_drewN | apply blk_drew | apply blk_alloc); refine blk_far ?_ NB590_600.out _; (with_reducible repeat first | apply blk_drewN | apply blk_drew | apply blk_alloc); exact BK590.out) Try.underlying30 rfl (by kernel_rfl)) rfl ?_
    exact ⟨by first | rfl | (simp [errW_none, errW_some] <;> rfl) | (simp [*, errW_none, errW_some] <;> rfl), by repeat (first | (with_reducible first | exact HB.out | apply below_alloc | apply pw_below_drewN | apply below_drew1 | refine below_set ?_ GE588.out | refine below_set ?_ GE589.out | refine below_set ?_ GE590.out | refine below_set ?_ GE600.out) | exact HB.out)⟩
   ·replace c23 := Bool.eq_false_iff.mpr c23
    subst c23
    have H1 : ((spec_l01Val.f kj5 a0 (wrap64 ((wrap64 (a1_2 * a2_1)) + (wrap64 (a1_3 * t591))))).bind fun t601 => ((spec_l01Of.f kj5 a0 (wrap64 ((wrap64 (a1_0 * a2_1)) + (wrap64 (a1_1 * t591)))) (wrap64 ((wrap64 (a1_2 * a2_1)) + (wrap64 (a1_3 * t591)))) (wrap64 ((wrap64 (t592 + a2_0)) - (wrap64 (2 * (wrap64 (t601 - a2_2))))))).bind fun bt602 => (some (bt602.1, bt602.2.1, bt602.2.2.1, a2_3, bt602.2.2.2)))) = some (r1, r2, r3, r4, r5) := by rw [if_neg (show ¬ (false = true) by decide)] at H; exact H
    clear H
    have H := H1
    clear H1
    replace H := Option.bind_eq_some_iff.mp H
    obtain ⟨t601, A420, H⟩ := H
    have A42 := Aside0.mk A420
    clear A420
    replace H := Option.bind_eq_some_iff.mp H
    obtain ⟨⟨t602, t603, t604, t605⟩, A430, H⟩ := H
    have A43 := Aside0.mk A430
    clear A430
    simp only [Option.some.injEq, Prod.mk.injEq] at H
    obtain ⟨rfl, rfl, rfl, rfl, rfl⟩ := H
    try go_wp2
    replace BK588 := Aside0.mk (blk_drew BK588.out)
    replace BK589 := Aside0.mk (blk_drew BK589.out)
    replace BK590 := Aside0.mk (blk_drew BK590.out)
    replace HB := Aside0.mk (below_drew1 HB.out)
    refine start_ (n := 15) (S := fun w' => w'.cell? ⟨gb589, 0, none⟩ = some (.int .i64 a2_0) ∧ w'.cell? ⟨gb589, 1, none⟩ = some (.int .i64 a2_1) ∧ w'.cell? ⟨gb589, 2, none⟩ = some (.int .i64 a2_2) ∧ w'.cell? ⟨gb589, 3, none⟩ = some (.bool a2_3)) (ds := []) #[false, false, false, false, false, false, false, false, false, false, false, false, false, false, false] (by kernel_rfl) rfl rfl ⟨(blk_cell BK589.out 0).trans rfl, (blk_cell BK589.out 1).trans rfl, (blk_cell BK589.out 2).trans rfl, (blk_cell BK589.out 3).trans rfl⟩ (fun hHeld => ?_); refine with_tabW spec_l09Move.tab7 spec_l09Move.bits7 (fun HT_ HW_ => ?_)
    generalize wc.drew = w44 at BK588 BK589 BK590 HB hHeld ⊢
    refine pu_ HT_ 0 (some 95) #[true, false, false, false, false, false, false, false, false, false, false, false, false, false, false] ?_
    refine pu_ HT_ 1 (some 96) #[true, true, false, false, false, false, false, false, false, false, false, false, false, false, false] ?_
    refine pu_ HT_ 2 (some 97) #[true, true, true, false, false, false, false, false, false, false, false, false, false, false, false] ?_
    refine pu_ HT_ 5 (some 100) #[true, true, true, false, false, true, false, false, false, false, false, false, false, false, false] ?_
    refine pu_ HT_ 6 (some 101) #[true, true, true, false, false, true, true, false, false, false, false, false, false, false, false] ?_
    refine pu_ HT_ 8 (some 103) #[true, true, true, false, false, true, true, false, true, false, false, false, false, false, false] ?_
    refine pu_ HT_ 9 (some 104) #[true, true, true, false, false, true, true, false, true, true, false, false, false, false, false] ?_
    refine ta_ HT_ HW_ 3 (some 98) #[true, true, true, true, false, true, true, false, true, true, false, false, false, false, false] hHeld ?_ (hy := by rintro w' ⟨s0, s1, s2, s3⟩; go_simp; with_reducible rfl)
    refine pu_ HT_ 4 (some 99) #[true, true, true, true, true, true, true, false, true, true, false, false, false, false, false] ?_
    refine ta_ HT_ HW_ 10 (some 105) #[true, true, true, true, true, true, true, false, true, true, true, false, false, false, false] hHeld ?_ (hy := by rintro w' ⟨s0, s1, s2, s3⟩; go_simp; with_reducible rfl)
    refine one_ (i := 7) (N := some 102) #[true, true, true, true, true, true, true, true, true, true, true, false, false, false, false] rfl rfl (one_of HT_.out (by kernel_rfl)) (by decide) (fun K hK => ?_)
    refine goes_ Try.func73 (by kernel_rfl) rfl #[.int .i64 a0, .int .i64 (wrap64 ((wrap64 (a1_2 * a2_1)) + (wrap64 (a1_3 * t591))))] (by rfl) rfl rfl (by (try simp only [List.map_toArray, List.map_cons, List.map_nil]); first | done | rfl | (simp only [List.length_drop, List.length_take]; rfl)) ?_
    with_reducible refine (spec_l01Val.calls kj5 a0 (wrap64 ((wrap64 (a1_2 * a2_1)) + (wrap64 (a1_3 * t591)))) t601 _ A42.out).mono ?_
    rintro e w' ⟨rfl, ⟨nd, rfl⟩⟩
    refine ⟨_, rfl, ?_⟩
    refine hK.out _ _ ⟨(blk_cell BK589.out 0).trans rfl, (blk_cell BK589.out 1).trans rfl, (blk_cell BK589.out 2).trans rfl, (blk_cell BK589.out 3).trans rfl⟩ (fun hHeld => ?_)
    clear hK K
    refine norm_ (a' := ?_) ?_ ?_
    rotate_left
    ·show Act.put _ (some 102) _ = _
     simp only [Act.put, lstS, lstZ, lstC, i64_w, i32_w]
     rfl
    refine pu_ HT_ 11 (some 106) #[true, true, true, true, true, true, true, true, true, true, true, true, false, false, false] ?_
    refine pu_ HT_ 12 (some 107) #[true, true, true, true, true, true, true, true, true, true, true, true, true, false, false] ?_
    refine pu_ HT_ 13 (some 108) #[true, true, true, true, true, true, true, true, true, true, true, true, true, true, false] ?_
    refine pu_ HT_ 14 (some 14) #[true, true, true, true, true, true, true, true, true, true, true, true, true, true, true] ?_
    refine done_ (done_of HT_.out (by kernel_rfl)) ?_
    try go_wp2_with (first | ((with_reducible refine gate_callee (f := 74) rfl ?_); refine goesL_ (some 114) rfl rfl Try.func74 (by kernel_rfl) rfl #[.int .i64 a0, .int .i64 (wrap64 ((wrap64 (a1_0 * a2_1)) + (wrap64 (a1_1 * t591)))), .int .i64 (wrap64 ((wrap64 (a1_2 * a2_1)) + (wrap64 (a1_3 * t591)))), .int .i64 (wrap64 ((wrap64 (t592 + a2_0)) - (wrap64 (2 * (wrap64 (t601 - a2_2))))))] rfl (by (try simp only [List.map_toArray, List.map_cons, List.map_nil]); first | done | rfl | (simp only [List.length_drop, List.length_take]; rfl)) ?_; (with_reducible refine (spec_l01Of.calls kj5 a0 (wrap64 ((wrap64 (a1_0 * a2_1)) + (wrap64 (a1_1 * t591)))) (wrap64 ((wrap64 (a1_2 * a2_1)) + (wrap64 (a1_3 * t591)))) (wrap64 ((wrap64 (t592 + a2_0)) - (wrap64 (2 * (wrap64 (t601 - a2_2)))))) t602 t603 t604 t605 _ A43.out).mono ?_); rintro e w45 ⟨rfl, hb⟩; refine ⟨_, rfl, ?_⟩; replace BK588 := bb_ BK588 hb; replace BK589 := bb_ BK589 hb; replace BK590 := bb_ BK590 hb; replace HB := bt_ HB hb; (try clear hb); (try clear hb2); (try clear hk); (try clear hi)) | ((with_reducible refine gate_dst (N := 15) rfl ?_); refine bx_ 15 #[.int .i64 0, .int .i64 0, .int .i64 0] 28 ?_; intro gb606 hg w46 hbox hb; have BK606 := Aside0.mk (hbox); have GW606 := bs_ HB hg; have GE606 := bs_ HB hg; have NB588_606 := bm_ BK588 hg; have NB606_588 := bn_ BK588 hg; have NB589_606 := bm_ BK589 hg; have NB606_589 := bn_ BK589 hg; have NB590_606 := bm_ BK590 hg; have NB606_590 := bn_ BK590 hg; replace BK588 := bb_ BK588 hb; replace BK589 := bb_ BK589 hb; replace BK590 := bb_ BK590 hb; replace HB := bt_ HB hb; clear hb hbox hg; have hnb47 := NB606_588.out; have hnc47 := NB588_606.out; have hnb48 := NB606_589.out; have hnc48 := NB589_606.out; have hnb49 := NB606_590.out; have hnc49 := NB590_606.out; have hcz50_0 : w46.cell? ⟨gb606, 0, none⟩ = some (.int .i64 0) := (blk_cell BK606.out 0).trans rfl; have hcz50_1 : w46.cell? ⟨gb606, 1, none⟩ = some (.int .i64 0) := (blk_cell BK606.out 1).trans rfl; have hcz50_2 : w46.cell? ⟨gb606, 2, none⟩ = some (.int .i64 0) := (blk_cell BK606.out 2).trans rfl; have hfz50_0 := blk_frozen BK606.out 0; have hfz50_1 := blk_frozen BK606.out 1; have hfz50_2 := blk_frozen BK606.out 2; have hnb51 := NB589_588.out; have hnc51 := NB588_589.out; have hnb52 := NB589_590.out; have hnc52 := NB590_589.out; have hcz53_0 : w46.cell? ⟨gb589, 0, none⟩ = some (.int .i64 a2_0) := (blk_cell BK589.out 0).trans rfl; have hcz53_1 : w46.cell? ⟨gb589, 1, none⟩ = some (.int .i64 a2_1) := (blk_cell BK589.out 1).trans rfl; have hcz53_2 : w46.cell? ⟨gb589, 2, none⟩ = some (.int .i64 a2_2) := (blk_cell BK589.out 2).trans rfl; have hcz53_3 : w46.cell? ⟨gb589, 3, none⟩ = some (.bool a2_3) := (blk_cell BK589.out 3).trans rfl; have hfz53_0 := blk_frozen BK589.out 0; have hfz53_1 := blk_frozen BK589.out 1; have hfz53_2 := blk_frozen BK589.out 2; have hfz53_3 := blk_frozen BK589.out 3; have hnb54 := NB590_588.out; have hnc54 := NB588_590.out; have hcz55_0 : w46.cell? ⟨gb590, 0, none⟩ = some (.int .i64 0) := (blk_cell BK590.out 0).trans rfl; have hcz55_1 : w46.cell? ⟨gb590, 1, none⟩ = some (.int .i64 0) := (blk_cell BK590.out 1).trans rfl; have hcz55_2 : w46.cell? ⟨gb590, 2, none⟩ = some (.int .i64 0) := (blk_cell BK590.out 2).trans rfl; have hcz55_3 : w46.cell? ⟨gb590, 3, none⟩ = some (.bool false) := (blk_cell BK590.out 3).trans rfl; have hfz55_0 := blk_frozen BK590.out 0; have hfz55_1 := blk_frozen BK590.out 1; have hfz55_2 := blk_frozen BK590.out 2; have hfz55_3 := blk_frozen BK590.out 3))
    refine bodyPost_ret (results_ct rfl _ _ gb590 30 #[.int .i64 t602, .int .i64 t603, .int .i64 t604, .bool a2_3] (0, 0) _ rfl (by (with_reducible repeat first | apply blk_drewN | apply blk_drew | apply blk_alloc); refine blk_put (cs := #[.int .i64 t602, .int .i64 t603, .int .i64 t604, .bool false]) ?_ 3 _ rfl; (with_reducible repeat first | apply blk_drewN | apply blk_drew | apply blk_alloc); refine blk_put (cs := #[.int .i64 t602, .int .i64 t603, .int .i64 0, .bool false]) ?_ 2 _ rfl; (with_reducible repeat first | apply blk_drewN | apply blk_drew | apply blk_alloc); refine blk_put (cs := #[.int .i64 t602, .int .i64 0, .int .i64 0, .bool false]) ?_ 1 _ rfl; (with_reducible repeat first | apply blk_drewN | apply blk_drew | apply blk_alloc); refine blk_put (cs := #[.int .i64 0, .int .i64 0, .int .i64 0, .bool false]) ?_ 0 _ rfl; (with_reducible repeat first | apply blk_drewN | apply blk_drew | apply blk_alloc); refine blk_far ?_ NB590_606.out _; (with_reducible repeat first | apply blk_drewN | apply blk_drew | apply blk_alloc); refine blk_far ?_ NB590_606.out _; (with_reducible repeat first | apply blk_drewN | apply blk_drew | apply blk_alloc); refine blk_far ?_ NB590_606.out _; (with_reducible repeat first | apply blk_drewN | apply blk_drew | apply blk_alloc); exact BK590.out) Try.underlying30 rfl (by kernel_rfl)) rfl ?_
    exact ⟨by first | rfl | (simp [errW_none, errW_some] <;> rfl) | (simp [*, errW_none, errW_some] <;> rfl), by repeat (first | (with_reducible first | exact HB.out | apply below_alloc | apply pw_below_drewN | apply below_drew1 | refine below_set ?_ GE588.out | refine below_set ?_ GE589.out | refine below_set ?_ GE590.out | refine below_set ?_ GE606.out) | exact HB.out)⟩
end Go.Proofs.Ytojpcbbmbnmchaa.QC
