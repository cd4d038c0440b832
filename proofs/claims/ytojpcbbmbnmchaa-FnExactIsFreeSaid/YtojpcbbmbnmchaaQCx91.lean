-- Written by a program of this session out of Lean's own print of the loaded program; Lean checks it.
import Derived.Test.YtojpcbbmbnmchaaQCx4
import Derived.Test.YtojpcbbmbnmchaaQCx28
import Derived.Test.YtojpcbbmbnmchaaQCx38
import Derived.Test.YtojpcbbmbnmchaaQCx46
namespace Go.Proofs.Ytojpcbbmbnmchaa.QC
open Go.RowKit Go.Proofs.YtojpcbbmbnmchaaW.PrintWords Go.Proofs.YtojpcbbmbnmchaaW.PrintLast Go.Proofs.YtojpcbbmbnmchaaW.PrintMore
attribute [local go_sem] isSome_setCell max2_int min2_int max_two min_two max_three min_three max_four min_four   -- for this text's walks alone
set_option linter.unusedVariables false
set_option linter.unusedSimpArgs false

/-! ### impl_moveSide: function 40 -/
def impl_moveSide.j0 : Nat → Int → Int → Int → Int → Int → Bool → Int → Int → Int → Int → Int → Int → Int → Bool → Option (Int × Int × Int × Bool × Bool)
 | 0, _, _, _, _, _, _, _, _, _, _, _, _, _, _ => none
 | k + 1, x0, x10, x11, x12, x13, x70, x676000, x676001, x676002, x676003, x677000, x677001, x677002, x677003 => if x70 = true then ((impl_ballAt.f k x0 x676000 x676002 (wrap64 ((wrap64 ((wrap64 (x12 - (wrap64 (2 * x13)))) - x677000)) + 1))).bind fun bt684 => (some (bt684.1, bt684.2.1, bt684.2.2.1, !x677003, bt684.2.2.2))) else ((impl_valuation.f k x0 x11).bind fun t689 => ((impl_ballAt.f k x0 x10 x11 (wrap64 ((wrap64 (x677000 + x12)) - (wrap64 (2 * (wrap64 (t689 - 6))))))).bind fun bt690 => (some (bt690.1, bt690.2.1, bt690.2.2.1, x677003, bt690.2.2.2))))
def impl_moveSide.f (k : Nat) (a0 : Int) (a1_0 : Int) (a1_1 : Int) (a1_2 : Int) (a1_3 : Int) (a2_0 : Int) (a2_1 : Int) (a2_2 : Int) (a2_3 : Bool) : Option (Int × Int × Int × Bool × Bool) := (impl_mark.f k a0 a2_0 a2_1 a2_2).bind fun t678 => ((impl_power.f k a0 6).bind fun t679 => ((impl_determinant.f a1_0 a1_1 a1_2 a1_3).bind fun t680 => ((impl_valuation.f k a0 t680).bind fun t681 => ((impl_valuation.f k a0 a1_2).bind fun t682 => (if a1_2 = 0 then (impl_moveSide.j0 k a0 (wrap64 ((wrap64 (a1_0 * t678)) + (wrap64 (a1_1 * t679)))) (wrap64 ((wrap64 (a1_2 * t678)) + (wrap64 (a1_3 * t679)))) t681 t682 false a1_0 a1_1 a1_2 a1_3 a2_0 a2_1 a2_2 a2_3) else ((impl_valuation.f k a0 (wrap64 ((wrap64 (a1_2 * t678)) + (wrap64 (a1_3 * t679))))).bind fun t683 => (impl_moveSide.j0 k a0 (wrap64 ((wrap64 (a1_0 * t678)) + (wrap64 (a1_1 * t679)))) (wrap64 ((wrap64 (a1_2 * t678)) + (wrap64 (a1_3 * t679)))) t681 t682 (decide ((wrap64 (t683 - 6)) ≥ (wrap64 (a2_0 + t682)))) a1_0 a1_1 a1_2 a1_3 a2_0 a2_1 a2_2 a2_3)))))))
def impl_moveSide.T2 : Bool × List (List Nat × List Nat) := (true, [([], []), ([0], [0]), ([1], [1]), ([], []), ([2, 3], [2, 3]), ([], []), ([5], [5]), ([6], [6]), ([], []), ([7, 8], [7, 8]), ([4, 9], [4, 9]), ([], []), ([11], [11]), ([12], [12]), ([], []), ([13, 14], [13, 14]), ([], []), ([16], [16]), ([17], [17]), ([], []), ([18, 19], [18, 19]), ([15, 20], [15, 20]), ([10, 0, 1, 2, 3, 4, 5, 6, 7, 8, 9, 10], [10]), ([21, 22, 0, 1, 2, 3, 4, 5, 6, 7, 8, 9, 10, 11, 12, 13, 14, 15, 16, 17, 18, 19, 20, 21, 22], [21])])
def impl_moveSide.B2 : List Nat := [0, 1, 3, 0, 15, 0, 32, 96, 0, 480, 1023, 0, 2048, 6144, 0, 30720, 0, 65536, 196608, 0, 983040, 2095104, 2047, 8388607]
theorem impl_moveSide.tab2 : rtab .any (opsOf Try.f40 2) = impl_moveSide.T2 := by kernel_rfl
theorem impl_moveSide.bits2 : waitsOk impl_moveSide.T2.2 impl_moveSide.B2 = true := by kernel_rfl
def impl_moveSide.T5 : Bool × List (List Nat × List Nat) := (true, [([], []), ([0], [0]), ([1], [1]), ([2], [2]), ([3], [3]), ([4], [4]), ([4], [4]), ([5, 6, 4, 4], [4, 5, 6]), ([7, 4], [4, 7]), ([4], [4]), ([9, 4], [4, 9]), ([10, 4], [4, 10]), ([4], [4]), ([11, 12, 4], [4, 11, 12]), ([8, 13, 4], [4, 8, 13]), ([4, 14], [4, 14])])
def impl_moveSide.B5 : List Nat := [0, 1, 3, 7, 15, 31, 31, 127, 255, 31, 543, 1567, 31, 7711, 16383, 32767]
theorem impl_moveSide.tab5 : rtab .any (opsOf Try.f40 5) = impl_moveSide.T5 := by kernel_rfl
theorem impl_moveSide.bits5 : waitsOk impl_moveSide.T5.2 impl_moveSide.B5 = true := by kernel_rfl
def impl_moveSide.T8 : Bool × List (List Nat × List Nat) := (true, [([], []), ([], []), ([], []), ([], []), ([3], [3]), ([4], [4]), ([], []), ([5, 6], [5, 6]), ([], []), ([], []), ([8, 9], [8, 9]), ([10], [10]), ([11], [11]), ([7, 12], [7, 12]), ([0, 1, 2, 13, 10], [0, 1, 2, 13]), ([14], [14]), ([15], [15]), ([15], [15]), ([], []), ([18, 16, 14, 0, 1, 2, 3, 4, 5, 6, 7, 8, 9, 10, 11, 12, 13, 14, 15, 16, 18], [16, 18]), ([17, 19, 0, 1, 2, 3, 4, 5, 6, 7, 8, 9, 10, 11, 12, 13, 14, 15, 16, 17, 18, 19], [17])])
def impl_moveSide.B8 : List Nat := [0, 0, 0, 0, 8, 24, 0, 120, 0, 0, 768, 1792, 3840, 8184, 16383, 32767, 65535, 65535, 0, 393215, 1048575]
theorem impl_moveSide.tab8 : rtab .any (opsOf Try.f40 8) = impl_moveSide.T8 := by kernel_rfl
theorem impl_moveSide.bits8 : waitsOk impl_moveSide.T8.2 impl_moveSide.B8 = true := by kernel_rfl
set_option maxHeartbeats 8000000 in
set_option maxRecDepth 100000 in
theorem impl_moveSide.calls (k : Nat) (a0 : Int) (a1_0 : Int) (a1_1 : Int) (a1_2 : Int) (a1_3 : Int) (a2_0 : Int) (a2_1 : Int) (a2_2 : Int) (a2_3 : Bool) (r1 : Int) (r2 : Int) (r3 : Int) (r4 : Bool) (r5 : Bool) (w : World) (h : impl_moveSide.f k a0 a1_0 a1_1 a1_2 a1_3 a2_0 a2_1 a2_2 a2_3 = some (r1, r2, r3, r4, r5)) :
  Calls Try.prog 40 #[.int .i64 a0, .agg #[.int .i64 a1_0, .int .i64 a1_1, .int .i64 a1_2, .int .i64 a1_3], .agg #[.int .i64 a2_0, .int .i64 a2_1, .int .i64 a2_2, .bool a2_3]] w fun e w' => e = .returned (.tuple #[.agg #[.int .i64 r1, .int .i64 r2, .int .i64 r3, .bool r4], .bool r5]) ∧ Below w.heap.size w w' := by
 have hu33 := Try.underlying33
 have hu30 := Try.underlying30
 have hu28 := Try.underlying28
 have hu22 := Try.underlying22
 have HB := Aside0.mk (Below.refl w.heap.size w)
 have H : ((impl_mark.f k a0 a2_0 a2_1 a2_2).bind fun t678 => ((impl_power.f k a0 6).bind fun t679 => ((impl_determinant.f a1_0 a1_1 a1_2 a1_3).bind fun t680 => ((impl_valuation.f k a0 t680).bind fun t681 => ((impl_valuation.f k a0 a1_2).bind fun t682 => (if a1_2 = 0 then (impl_moveSide.j0 k a0 (wrap64 ((wrap64 (a1_0 * t678)) + (wrap64 (a1_1 * t679)))) (wrap64 ((wrap64 (a1_2 * t678)) + (wrap64 (a1_3 * t679)))) t681 t682 false a1_0 a1_1 a1_2 a1_3 a2_0 a2_1 a2_2 a2_3) else ((impl_valuation.f k a0 (wrap64 ((wrap64 (a1_2 * t678)) + (wrap64 (a1_3 * t679))))).bind fun t683 => (impl_moveSide.j0 k a0 (wrap64 ((wrap64 (a1_0 * t678)) + (wrap64 (a1_1 * t679)))) (wrap64 ((wrap64 (a1_2 * t678)) + (wrap64 (a1_3 * t679)))) t681 t682 (decide ((wrap64 (t683 - 6)) ≥ (wrap64 (a2_0 + t682)))) a1_0 a1_1 a1_2 a1_3 a2_0 a2_1 a2_2 a2_3)))))))) = some (r1, r2, r3, r4, r5) := h
 clear h
 replace H := Option.bind_eq_some_iff.mp H
 obtain ⟨t678, A40, H⟩ := H
 have A4 := Aside0.mk A40
 clear A40
 replace H := Option.bind_eq_some_iff.mp H
 obtain ⟨t679, A50, H⟩ := H
 have A5 := Aside0.mk A50
 clear A50
 replace H := Option.bind_eq_some_iff.mp H
 obtain ⟨t680, A60, H⟩ := H
 have A6 := Aside0.mk A60
 clear A60
 replace H := Option.bind_eq_some_iff.mp H
 obtain ⟨t681, A70, H⟩ := H
 have A7 := Aside0.mk A70
 clear A70
 replace H := Option.bind_eq_some_iff.mp H
 obtain ⟨t682, A80, H⟩ := H
 have A8 := Aside0.mk A80
 clear A80
 have HC9 := Aside0.mk H
 clear H
 go_enter Try.func40, Try.ntmps40
 try go_wp2_with (first | ((with_reducible refine gate_dst (N := 4) rfl ?_); refine bx_ 4 #[.int .i64 a1_0, .int .i64 a1_1, .int .i64 a1_2, .int .i64 a1_3] 33 ?_; intro gb675 hg w10 hbox hb; have BK675 := Aside0.mk (hbox); have GW675 := bs_ HB hg; have GE675 := bs_ HB hg; replace HB := bt_ HB hb; clear hb hbox hg) | ((with_reducible refine gate_dst (N := 5) rfl ?_); refine bx_ 5 #[.int .i64 a2_0, .int .i64 a2_1, .int .i64 a2_2, .bool a2_3] 30 ?_; intro gb676 hg w11 hbox hb; have BK676 := Aside0.mk (hbox); have GW676 := bs_ HB hg; have GE676 := bs_ HB hg; have NB675_676 := bm_ BK675 hg; have NB676_675 := bn_ BK675 hg; replace BK675 := bb_ BK675 hb; replace HB := bt_ HB hb; clear hb hbox hg) | ((with_reducible refine gate_dst (N := 6) rfl ?_); refine bx_ 6 #[.int .i64 0, .int .i64 0, .int .i64 0, .bool false] 30 ?_; intro gb677 hg w12 hbox hb; have BK677 := Aside0.mk (hbox); have GW677 := bs_ HB hg; have GE677 := bs_ HB hg; have NB675_677 := bm_ BK675 hg; have NB677_675 := bn_ BK675 hg; have NB676_677 := bm_ BK676 hg; have NB677_676 := bn_ BK676 hg; replace BK675 := bb_ BK675 hb; replace BK676 := bb_ BK676 hb; replace HB := bt_ HB hb; clear hb hbox hg; have hnb13 := NB676_675.out; have hnc13 := NB675_676.out; have hnb14 := NB676_677.out; have hnc14 := NB677_676.out; have hcz15_0 : w12.cell? ⟨gb676, 0, none⟩ = some (.int .i64 a2_0) := (blk_cell BK676.out 0).trans rfl; have hcz15_1 : w12.cell? ⟨gb676, 1, none⟩ = some (.int .i64 a2_1) := (blk_cell BK676.out 1).trans rfl; have hcz15_2 : w12.cell? ⟨gb676, 2, none⟩ = some (.int .i64 a2_2) := (blk_cell BK676.out 2).trans rfl; have hcz15_3 : w12.cell? ⟨gb676, 3, none⟩ = some (.bool a2_3) := (blk_cell BK676.out 3).trans rfl; have hfz15_0 := blk_frozen BK676.out 0; have hfz15_1 := blk_frozen BK676.out 1; have hfz15_2 := blk_frozen BK676.out 2; have hfz15_3 := blk_frozen BK676.out 3) | ((with_reducible refine gate_callee (f := 79) rfl ?_); refine goesL_ (some 21) rfl rfl Try.func79 (by kernel_rfl) rfl #[.int .i64 a0, .agg #[.int .i64 a2_0, .int .i64 a2_1, .int .i64 a2_2]] rfl (by (try simp only [List.map_toArray, List.map_cons, List.map_nil]); first | done | rfl | (simp only [List.length_drop, List.length_take]; rfl)) ?_; (with_reducible refine (impl_mark.calls k a0 a2_0 a2_1 a2_2 t678 _ A4.out).mono ?_); rintro e w16 ⟨rfl, hb⟩; refine ⟨_, rfl, ?_⟩; replace BK675 := bb_ BK675 hb; replace BK676 := bb_ BK676 hb; replace BK677 := bb_ BK677 hb; replace HB := bt_ HB hb; (try clear hb); (try clear hb2); (try clear hk); (try clear hi)) | ((with_reducible refine gate_callee (f := 80) rfl ?_); refine goesL_ (some 23) rfl rfl Try.func80 (by kernel_rfl) rfl #[.int .i64 a0, .int .i64 6] rfl (by (try simp only [List.map_toArray, List.map_cons, List.map_nil]); first | done | rfl | (simp only [List.length_drop, List.length_take]; rfl)) ?_; (with_reducible refine (impl_power.calls k a0 6 t679 _ A5.out).mono ?_); rintro e w' ⟨rfl, ⟨nd, rfl⟩⟩; refine ⟨_, rfl, ?_⟩))
 (try (rw [drewN_self w16]; generalize hq_ : World.drewN w16 _ = w16; have n0_ : Aside0 (w16.heap[gb675]? = some (.cells #[.int .i64 a1_0, .int .i64 a1_1, .int .i64 a1_2, .int .i64 a1_3] 33 (0, 0))) := ⟨by rw [← hq_]; exact (bl_ BK675).out⟩; have n1_ : Aside0 (w16.heap[gb676]? = some (.cells #[.int .i64 a2_0, .int .i64 a2_1, .int .i64 a2_2, .bool a2_3] 30 (0, 0))) := ⟨by rw [← hq_]; exact (bl_ BK676).out⟩; have n2_ : Aside0 (w16.heap[gb677]? = some (.cells #[.int .i64 0, .int .i64 0, .int .i64 0, .bool false] 30 (0, 0))) := ⟨by rw [← hq_]; exact (bl_ BK677).out⟩; have n3_ : Aside0 (Below w.heap.size w w16) := ⟨by rw [← hq_]; exact (bw_ HB).out⟩; clear BK675 BK676 BK677 HB hq_; have BK675 := n0_; have BK676 := n1_; have BK677 := n2_; have HB := n3_; clear n0_ n1_ n2_ n3_))
 replace BK675 := Aside0.mk (blk_drew BK675.out)
 replace BK676 := Aside0.mk (blk_drew BK676.out)
 replace BK677 := Aside0.mk (blk_drew BK677.out)
 replace HB := Aside0.mk (below_drew1 HB.out)
 refine start_ (n := 24) (S := fun w' => w'.cell? ⟨gb675, 0, none⟩ = some (.int .i64 a1_0) ∧ w'.cell? ⟨gb675, 1, none⟩ = some (.int .i64 a1_1) ∧ w'.cell? ⟨gb675, 2, none⟩ = some (.int .i64 a1_2) ∧ w'.cell? ⟨gb675, 3, none⟩ = some (.int .i64 a1_3)) (ds := []) #[false, false, false, false, false, false, false, false, false, false, false, false, false, false, false, false, false, false, false, false, false, false, false, false] (by kernel_rfl) rfl rfl ⟨(blk_cell BK675.out 0).trans rfl, (blk_cell BK675.out 1).trans rfl, (blk_cell BK675.out 2).trans rfl, (blk_cell BK675.out 3).trans rfl⟩ (fun hHeld => ?_); refine with_tabW impl_moveSide.tab2 impl_moveSide.bits2 (fun HT_ HW_ => ?_)
 generalize w16.drew = w17 at BK675 BK676 BK677 HB hHeld ⊢
 refine pu_ HT_ 0 (some 24) #[true, false, false, false, false, false, false, false, false, false, false, false, false, false, false, false, false, false, false, false, false, false, false, false] ?_
 refine pu_ HT_ 1 (some 25) #[true, true, false, false, false, false, false, false, false, false, false, false, false, false, false, false, false, false, false, false, false, false, false, false] ?_
 refine pu_ HT_ 3 (some 27) #[true, true, false, true, false, false, false, false, false, false, false, false, false, false, false, false, false, false, false, false, false, false, false, false] ?_
 refine pu_ HT_ 5 (some 29) #[true, true, false, true, false, true, false, false, false, false, false, false, false, false, false, false, false, false, false, false, false, false, false, false] ?_
 refine pu_ HT_ 6 (some 30) #[true, true, false, true, false, true, true, false, false, false, false, false, false, false, false, false, false, false, false, false, false, false, false, false] ?_
 refine pu_ HT_ 8 (some 32) #[true, true, false, true, false, true, true, false, true, false, false, false, false, false, false, false, false, false, false, false, false, false, false, false] ?_
 refine pu_ HT_ 11 (some 35) #[true, true, false, true, false, true, true, false, true, false, false, true, false, false, false, false, false, false, false, false, false, false, false, false] ?_
 refine pu_ HT_ 12 (some 36) #[true, true, false, true, false, true, true, false, true, false, false, true, true, false, false, false, false, false, false, false, false, false, false, false] ?_
 refine pu_ HT_ 14 (some 38) #[true, true, false, true, false, true, true, false, true, false, false, true, true, false, true, false, false, false, false, false, false, false, false, false] ?_
 refine pu_ HT_ 16 (some 40) #[true, true, false, true, false, true, true, false, true, false, false, true, true, false, true, false, true, false, false, false, false, false, false, false] ?_
 refine pu_ HT_ 17 (some 41) #[true, true, false, true, false, true, true, false, true, false, false, true, true, false, true, false, true, true, false, false, false, false, false, false] ?_
 refine pu_ HT_ 19 (some 43) #[true, true, false, true, false, true, true, false, true, false, false, true, true, false, true, false, true, true, false, true, false, false, false, false] ?_
 refine ta_ HT_ HW_ 2 (some 26) #[true, true, true, true, false, true, true, false, true, false, false, true, true, false, true, false, true, true, false, true, false, false, false, false] hHeld ?_ (hy := by rintro w' ⟨s0, s1, s2, s3⟩; go_simp; with_reducible rfl)
 refine pu_ HT_ 4 (some 28) #[true, true, true, true, true, true, true, false, true, false, false, true, true, false, true, false, true, true, false, true, false, false, false, false] ?_
 refine ta_ HT_ HW_ 7 (some 31) #[true, true, true, true, true, true, true, true, true, false, false, true, true, false, true, false, true, true, false, true, false, false, false, false] hHeld ?_ (hy := by rintro w' ⟨s0, s1, s2, s3⟩; go_simp; with_reducible rfl)
 refine pu_ HT_ 9 (some 33) #[true, true, true, true, true, true, true, true, true, true, false, true, true, false, true, false, true, true, false, true, false, false, false, false] ?_
 refine pu_ HT_ 10 (some 34) #[true, true, true, true, true, true, true, true, true, true, true, true, true, false, true, false, true, true, false, true, false, false, false, false] ?_
 refine pu_ HT_ 22 (some 10) #[true, true, true, true, true, true, true, true, true, true, true, true, true, false, true, false, true, true, false, true, false, false, true, false] ?_
 refine ta_ HT_ HW_ 13 (some 37) #[true, true, true, true, true, true, true, true, true, true, true, true, true, true, true, false, true, true, false, true, false, false, true, false] hHeld ?_ (hy := by rintro w' ⟨s0, s1, s2, s3⟩; go_simp; with_reducible rfl)
 refine pu_ HT_ 15 (some 39) #[true, true, true, true, true, true, true, true, true, true, true, true, true, true, true, true, true, true, false, true, false, false, true, false] ?_
 refine ta_ HT_ HW_ 18 (some 42) #[true, true, true, true, true, true, true, true, true, true, true, true, true, true, true, true, true, true, true, true, false, false, true, false] hHeld ?_ (hy := by rintro w' ⟨s0, s1, s2, s3⟩; go_simp; with_reducible rfl)
 refine pu_ HT_ 20 (some 44) #[true, true, true, true, true, true, true, true, true, true, true, true, true, true, true, true, true, true, true, true, true, false, true, false] ?_
 refine pu_ HT_ 21 (some 45) #[true, true, true, true, true, true, true, true, true, true, true, true, true, true, true, true, true, true, true, true, true, true, true, false] ?_
 refine pu_ HT_ 23 (some 11) #[true, true, true, true, true, true, true, true, true, true, true, true, true, true, true, true, true, true, true, true, true, true, true, true] ?_
 refine done_ (done_of HT_.out (by kernel_rfl)) ?_
 have hnb18 := NB675_677.out
 have hnc18 := NB677_675.out
 have hcz19_0 : w17.cell? ⟨gb675, 0, none⟩ = some (.int .i64 a1_0) := (blk_cell BK675.out 0).trans rfl
 have hcz19_1 : w17.cell? ⟨gb675, 1, none⟩ = some (.int .i64 a1_1) := (blk_cell BK675.out 1).trans rfl
 have hcz19_2 : w17.cell? ⟨gb675, 2, none⟩ = some (.int .i64 a1_2) := (blk_cell BK675.out 2).trans rfl
 have hcz19_3 : w17.cell? ⟨gb675, 3, none⟩ = some (.int .i64 a1_3) := (blk_cell BK675.out 3).trans rfl
 have hfz19_0 := blk_frozen BK675.out 0
 have hfz19_1 := blk_frozen BK675.out 1
 have hfz19_2 := blk_frozen BK675.out 2
 have hfz19_3 := blk_frozen BK675.out 3
 go_upto_region 5 with (first | ((with_reducible refine gate_callee (f := 78) rfl ?_); refine goesL_ (some 48) rfl rfl Try.func78 (by kernel_rfl) rfl #[.agg #[.int .i64 a1_0, .int .i64 a1_1, .int .i64 a1_2, .int .i64 a1_3]] rfl (by (try simp only [List.map_toArray, List.map_cons, List.map_nil]); first | done | rfl | (simp only [List.length_drop, List.length_take]; rfl)) ?_; (with_reducible refine (impl_determinant.calls a1_0 a1_1 a1_2 a1_3 t680 _ A6.out).mono ?_); rintro e w20 ⟨rfl, hb⟩; refine ⟨_, rfl, ?_⟩; replace BK675 := bb_ BK675 hb; replace BK676 := bb_ BK676 hb; replace BK677 := bb_ BK677 hb; replace HB := bt_ HB hb; (try clear hb); (try clear hb2); (try clear hk); (try clear hi)) | ((with_reducible refine gate_callee (f := 81) rfl ?_); refine goesL_ (some 49) rfl rfl Try.func81 (by kernel_rfl) rfl #[.int .i64 a0, .int .i64 t680] rfl (by (try simp only [List.map_toArray, List.map_cons, List.map_nil]); first | done | rfl | (simp only [List.length_drop, List.length_take]; rfl)) ?_; (with_reducible refine (impl_valuation.calls k a0 t680 t681 _ A7.out).mono ?_); rintro e w' ⟨rfl, ⟨nd, rfl⟩⟩; refine ⟨_, rfl, ?_⟩; have hcz21_0 : w20.cell? ⟨gb675, 0, none⟩ = some (.int .i64 a1_0) := (blk_cell BK675.out 0).trans rfl; have hcz21_1 : w20.cell? ⟨gb675, 1, none⟩ = some (.int .i64 a1_1) := (blk_cell BK675.out 1).trans rfl; have hcz21_2 : w20.cell? ⟨gb675, 2, none⟩ = some (.int .i64 a1_2) := (blk_cell BK675.out 2).trans rfl; have hcz21_3 : w20.cell? ⟨gb675, 3, none⟩ = some (.int .i64 a1_3) := (blk_cell BK675.out 3).trans rfl; have hfz21_0 := blk_frozen BK675.out 0; have hfz21_1 := blk_frozen BK675.out 1; have hfz21_2 := blk_frozen BK675.out 2; have hfz21_3 := blk_frozen BK675.out 3) | ((with_reducible refine gate_callee (f := 81) rfl ?_); refine goesL_ (some 54) rfl rfl Try.func81 (by kernel_rfl) rfl #[.int .i64 a0, .int .i64 a1_2] rfl (by (try simp only [List.map_toArray, List.map_cons, List.map_nil]); first | done | rfl | (simp only [List.length_drop, List.length_take]; rfl)) ?_; (with_reducible refine (impl_valuation.calls k a0 a1_2 t682 _ A8.out).mono ?_); rintro e w' ⟨rfl, ⟨nd, rfl⟩⟩; refine ⟨_, rfl, ?_⟩))
 (try simp only [Act.put, lstS, lstZ, lstC])
 go_cut [70] (fun v70 wc => ∃ (kq : Nat) (x70_8 : Bool), v70 = .bool x70_8 ∧ Aside0 (impl_moveSide.j0 kq a0 (wrap64 ((wrap64 (a1_0 * t678)) + (wrap64 (a1_1 * t679)))) (wrap64 ((wrap64 (a1_2 * t678)) + (wrap64 (a1_3 * t679)))) t681 t682 x70_8 a1_0 a1_1 a1_2 a1_3 a2_0 a2_1 a2_2 a2_3 = some (r1, r2, r3, r4, r5)) ∧ Aside0 (kq ≤ k) ∧ Aside0 (wc.heap[gb675]? = some (.cells #[.int .i64 a1_0, .int .i64 a1_1, .int .i64 a1_2, .int .i64 a1_3] 33 (0, 0))) ∧ Aside0 (wc.heap[gb676]? = some (.cells #[.int .i64 a2_0, .int .i64 a2_1, .int .i64 a2_2, .bool a2_3] 30 (0, 0))) ∧ Aside0 (wc.heap[gb677]? = some (.cells #[.int .i64 0, .int .i64 0, .int .i64 0, .bool false] 30 (0, 0))) ∧ Aside0 (Below w.heap.size w wc))
 case first =>
  have H := HC9.out
  clear HC9
  by_cases c22 : a1_2 = 0
  ·rw [if_pos c22] at H
   have c22b0 : (a1_2 == 0) = true := beq_iff_eq.mpr c22
   have c22b1 : (a1_2 != 0) = false := bne_eq_false_iff_eq.mpr c22
   clear c22
   (first | rw [c22b0] | (simp only [i64_w, i32_w]; rw [c22b0]) | skip)
   have H' := Aside0.mk H
   clear H
   try go_wp2
   (try (rw [drewN_self w20]; generalize hq_ : World.drewN w20 _ = w20; have n0_ : Aside0 (w20.heap[gb675]? = some (.cells #[.int .i64 a1_0, .int .i64 a1_1, .int .i64 a1_2, .int .i64 a1_3] 33 (0, 0))) := ⟨by rw [← hq_]; exact (bl_ BK675).out⟩; have n1_ : Aside0 (w20.heap[gb676]? = some (.cells #[.int .i64 a2_0, .int .i64 a2_1, .int .i64 a2_2, .bool a2_3] 30 (0, 0))) := ⟨by rw [← hq_]; exact (bl_ BK676).out⟩; have n2_ : Aside0 (w20.heap[gb677]? = some (.cells #[.int .i64 0, .int .i64 0, .int .i64 0, .bool false] 30 (0, 0))) := ⟨by rw [← hq_]; exact (bl_ BK677).out⟩; have n3_ : Aside0 (Below w.heap.size w w20) := ⟨by rw [← hq_]; exact (bw_ HB).out⟩; clear BK675 BK676 BK677 HB hq_; have BK675 := n0_; have BK676 := n1_; have BK677 := n2_; have HB := n3_; clear n0_ n1_ n2_ n3_))
   replace BK675 := Aside0.mk (blk_drew BK675.out)
   replace BK676 := Aside0.mk (blk_drew BK676.out)
   replace BK677 := Aside0.mk (blk_drew BK677.out)
   replace HB := Aside0.mk (below_drew1 HB.out)
   refine start_ (n := 16) (S := fun w' => w'.cell? ⟨gb675, 0, none⟩ = some (.int .i64 a1_0) ∧ w'.cell? ⟨gb675, 1, none⟩ = some (.int .i64 a1_1) ∧ w'.cell? ⟨gb675, 2, none⟩ = some (.int .i64 a1_2) ∧ w'.cell? ⟨gb675, 3, none⟩ = some (.int .i64 a1_3)) (ds := []) #[false, false, false, false, false, false, false, false, false, false, false, false, false, false, false, false] (by kernel_rfl) rfl rfl ⟨(blk_cell BK675.out 0).trans rfl, (blk_cell BK675.out 1).trans rfl, (blk_cell BK675.out 2).trans rfl, (blk_cell BK675.out 3).trans rfl⟩ (fun hHeld => ?_); refine with_tabW impl_moveSide.tab5 impl_moveSide.bits5 (fun HT_ HW_ => ?_)
   generalize w20.drew = w23 at BK675 BK676 BK677 HB hHeld ⊢
   refine pu_ HT_ 0 (some 55) #[true, false, false, false, false, false, false, false, false, false, false, false, false, false, false, false] ?_
   refine pu_ HT_ 1 (some 56) #[true, true, false, false, false, false, false, false, false, false, false, false, false, false, false, false] ?_
   refine ta_ HT_ HW_ 2 (some 57) #[true, true, true, false, false, false, false, false, false, false, false, false, false, false, false, false] hHeld ?_ (hy := by rintro w' ⟨s0, s1, s2, s3⟩; go_simp; with_reducible rfl)
   refine pu_ HT_ 3 (some 58) #[true, true, true, true, false, false, false, false, false, false, false, false, false, false, false, false] ?_
   refine pu_ HT_ 4 (some 59) #[true, true, true, true, true, false, false, false, false, false, false, false, false, false, false, false] ?_
   refine pv_ HT_ 5 (some 60) #[true, true, true, true, true, true, false, false, false, false, false, false, false, false, false, false] ?_
   refine pv_ HT_ 6 (some 61) #[true, true, true, true, true, true, true, false, false, false, false, false, false, false, false, false] ?_
   refine pv_ HT_ 7 (some 62) #[true, true, true, true, true, true, true, true, false, false, false, false, false, false, false, false] ?_
   refine pv_ HT_ 8 (some 63) #[true, true, true, true, true, true, true, true, true, false, false, false, false, false, false, false] ?_
   refine pv_ HT_ 9 (some 64) #[true, true, true, true, true, true, true, true, true, true, false, false, false, false, false, false] ?_
   refine pv_ HT_ 10 (some 65) #[true, true, true, true, true, true, true, true, true, true, true, false, false, false, false, false] ?_
   refine pv_ HT_ 11 (some 66) #[true, true, true, true, true, true, true, true, true, true, true, true, false, false, false, false] ?_
   refine pv_ HT_ 12 (some 67) #[true, true, true, true, true, true, true, true, true, true, true, true, true, false, false, false] ?_
   refine pv_ HT_ 13 (some 68) #[true, true, true, true, true, true, true, true, true, true, true, true, true, true, false, false] ?_
   refine pv_ HT_ 14 (some 69) #[true, true, true, true, true, true, true, true, true, true, true, true, true, true, true, false] ?_
   refine pu_ HT_ 15 (some 70) #[true, true, true, true, true, true, true, true, true, true, true, true, true, true, true, true] ?_
   refine done_ (done_of HT_.out (by kernel_rfl)) ?_
   try go_wp2
   go_meet
   case rel => exact ⟨_, (false), (by first | rfl | (simp; done) | (simp [*]; done) | (simp [wrap64]; done)), H', ⟨by first | omega | exact Nat.le_refl _⟩, bl_ BK675, bl_ BK676, bl_ BK677, bw_ HB⟩
  ·rw [if_neg c22] at H
   have c22b0 : (a1_2 == 0) = false := beq_eq_false_iff_ne.mpr c22
   have c22b1 : (a1_2 != 0) = true := bne_iff_ne.mpr c22
   (first | rw [c22b0] | (simp only [i64_w, i32_w]; rw [c22b0]) | skip)
   replace H := Option.bind_eq_some_iff.mp H
   obtain ⟨t683, A240, H⟩ := H
   have A24 := Aside0.mk A240
   clear A240
   have H' := Aside0.mk H
   clear H
   try go_wp2
   (try (rw [drewN_self w20]; generalize hq_ : World.drewN w20 _ = w20; have n0_ : Aside0 (w20.heap[gb675]? = some (.cells #[.int .i64 a1_0, .int .i64 a1_1, .int .i64 a1_2, .int .i64 a1_3] 33 (0, 0))) := ⟨by rw [← hq_]; exact (bl_ BK675).out⟩; have n1_ : Aside0 (w20.heap[gb676]? = some (.cells #[.int .i64 a2_0, .int .i64 a2_1, .int .i64 a2_2, .bool a2_3] 30 (0, 0))) := ⟨by rw [← hq_]; exact (bl_ BK676).out⟩; have n2_ : Aside0 (w20.heap[gb677]? = some (.cells #[.int .i64 0, .int .i64 0, .int .i64 0, .bool false] 30 (0, 0))) := ⟨by rw [← hq_]; exact (bl_ BK677).out⟩; have n3_ : Aside0 (Below w.heap.size w w20) := ⟨by rw [← hq_]; exact (bw_ HB).out⟩; clear BK675 BK676 BK677 HB hq_; have BK675 := n0_; have BK676 := n1_; have BK677 := n2_; have HB := n3_; clear n0_ n1_ n2_ n3_))
   replace BK675 := Aside0.mk (blk_drew BK675.out)
   replace BK676 := Aside0.mk (blk_drew BK676.out)
   replace BK677 := Aside0.mk (blk_drew BK677.out)
   replace HB := Aside0.mk (below_drew1 HB.out)
   refine start_ (n := 16) (S := fun w' => w'.cell? ⟨gb675, 0, none⟩ = some (.int .i64 a1_0) ∧ w'.cell? ⟨gb675, 1, none⟩ = some (.int .i64 a1_1) ∧ w'.cell? ⟨gb675, 2, none⟩ = some (.int .i64 a1_2) ∧ w'.cell? ⟨gb675, 3, none⟩ = some (.int .i64 a1_3) ∧ w'.cell? ⟨gb676, 0, none⟩ = some (.int .i64 a2_0) ∧ w'.cell? ⟨gb676, 1, none⟩ = some (.int .i64 a2_1) ∧ w'.cell? ⟨gb676, 2, none⟩ = some (.int .i64 a2_2) ∧ w'.cell? ⟨gb676, 3, none⟩ = some (.bool a2_3)) (ds := []) #[false, false, false, false, false, false, false, false, false, false, false, false, false, false, false, false] (by kernel_rfl) rfl rfl ⟨(blk_cell BK675.out 0).trans rfl, (blk_cell BK675.out 1).trans rfl, (blk_cell BK675.out 2).trans rfl, (blk_cell BK675.out 3).trans rfl, (blk_cell BK676.out 0).trans rfl, (blk_cell BK676.out 1).trans rfl, (blk_cell BK676.out 2).trans rfl, (blk_cell BK676.out 3).trans rfl⟩ (fun hHeld => ?_); refine with_tabW impl_moveSide.tab5 impl_moveSide.bits5 (fun HT_ HW_ => ?_)
   generalize w20.drew = w25 at BK675 BK676 BK677 HB hHeld ⊢
   refine pu_ HT_ 0 (some 55) #[true, false, false, false, false, false, false, false, false, false, false, false, false, false, false, false] ?_
   refine pu_ HT_ 1 (some 56) #[true, true, false, false, false, false, false, false, false, false, false, false, false, false, false, false] ?_
   refine ta_ HT_ HW_ 2 (some 57) #[true, true, true, false, false, false, false, false, false, false, false, false, false, false, false, false] hHeld ?_ (hy := by rintro w' ⟨s0, s1, s2, s3, s4, s5, s6, s7⟩; go_simp; with_reducible rfl)
   refine pu_ HT_ 3 (some 58) #[true, true, true, true, false, false, false, false, false, false, false, false, false, false, false, false] ?_
   refine pu_ HT_ 4 (some 59) #[true, true, true, true, true, false, false, false, false, false, false, false, false, false, false, false] ?_
   refine pu_ HT_ 5 (some 60) #[true, true, true, true, true, true, false, false, false, false, false, false, false, false, false, false] ?_
   refine pu_ HT_ 6 (some 61) #[true, true, true, true, true, true, true, false, false, false, false, false, false, false, false, false] ?_
   refine pu_ HT_ 9 (some 64) #[true, true, true, true, true, true, true, false, false, true, false, false, false, false, false, false] ?_
   refine pu_ HT_ 10 (some 65) #[true, true, true, true, true, true, true, false, false, true, true, false, false, false, false, false] ?_
   refine pu_ HT_ 12 (some 67) #[true, true, true, true, true, true, true, false, false, true, true, false, true, false, false, false] ?_
   refine ta_ HT_ HW_ 11 (some 66) #[true, true, true, true, true, true, true, false, false, true, true, true, true, false, false, false] hHeld ?_ (hy := by rintro w' ⟨s0, s1, s2, s3, s4, s5, s6, s7⟩; go_simp; with_reducible rfl)
   refine pu_ HT_ 13 (some 68) #[true, true, true, true, true, true, true, false, false, true, true, true, true, true, false, false] ?_
   refine one_ (i := 7) (N := some 62) #[true, true, true, true, true, true, true, true, false, true, true, true, true, true, false, false] rfl rfl (one_of HT_.out (by kernel_rfl)) (by decide) (fun K hK => ?_)
   refine goes_ Try.func81 (by kernel_rfl) rfl #[.int .i64 a0, .int .i64 (wrap64 ((wrap64 (a1_2 * t678)) + (wrap64 (a1_3 * t679))))] (by rfl) rfl rfl (by (try simp only [List.map_toArray, List.map_cons, List.map_nil]); first | done | rfl | (simp only [List.length_drop, List.length_take]; rfl)) ?_
   with_reducible refine (impl_valuation.calls k a0 (wrap64 ((wrap64 (a1_2 * t678)) + (wrap64 (a1_3 * t679)))) t683 _ A24.out).mono ?_
   rintro e w' ⟨rfl, ⟨nd, rfl⟩⟩
   refine ⟨_, rfl, ?_⟩
   refine hK.out _ _ ⟨(blk_cell BK675.out 0).trans rfl, (blk_cell BK675.out 1).trans rfl, (blk_cell BK675.out 2).trans rfl, (blk_cell BK675.out 3).trans rfl, (blk_cell BK676.out 0).trans rfl, (blk_cell BK676.out 1).trans rfl, (blk_cell BK676.out 2).trans rfl, (blk_cell BK676.out 3).trans rfl⟩ (fun hHeld => ?_)
   clear hK K
   refine norm_ (a' := ?_) ?_ ?_
   rotate_left
   ·show Act.put _ (some 62) _ = _
    simp only [Act.put, lstS, lstZ, lstC, i64_w, i32_w]
    rfl
   refine pu_ HT_ 8 (some 63) #[true, true, true, true, true, true, true, true, true, true, true, true, true, true, false, false] ?_
   refine pu_ HT_ 14 (some 69) #[true, true, true, true, true, true, true, true, true, true, true, true, true, true, true, false] ?_
   refine pu_ HT_ 15 (some 70) #[true, true, true, true, true, true, true, true, true, true, true, true, true, true, true, true] ?_
   refine done_ (done_of HT_.out (by kernel_rfl)) ?_
   try go_wp2
   go_meet
   case rel => exact ⟨_, (decide ((wrap64 (t683 - 6)) ≥ (wrap64 (a2_0 + t682)))), (by first | rfl | (simp; done) | (simp [*]; done) | (simp [wrap64]; done)), H', ⟨by first | omega | exact Nat.le_refl _⟩, bl_ BK675, bl_ BK676, bl_ BK677, bw_ HB⟩
 case rest =>
  clear HC9
  try clear c1
  try clear c2
  try clear p2
  try clear c4
  try clear p6
  try clear c7
  try clear c8
  try clear c13
  try clear c14
  try clear c18
  try clear c22
  try clear c22b0
  try clear c22b1
  try clear hcz15_0
  try clear hcz15_1
  try clear hcz15_2
  try clear hcz15_3
  try clear hcz19_0
  try clear hcz19_1
  try clear hcz19_2
  try clear hcz19_3
  try clear hcz21_0
  try clear hcz21_1
  try clear hcz21_2
  try clear hcz21_3
  try clear hfz15_0
  try clear hfz15_1
  try clear hfz15_2
  try clear hfz15_3
  try clear hfz19_0
  try clear hfz19_1
  try clear hfz19_2
  try clear hfz19_3
  try clear hfz21_0
  try clear hfz21_1
  try clear hfz21_2
  try clear hfz21_3
  obtain ⟨kq, x70_8, rfl, HA, HJ8, BK675, BK676, BK677, HB⟩ := hcut
  cases kq with
  | zero => exact absurd HA.out (by simp [impl_moveSide.j0])
  | succ kj8 =>
   have H := HA.out
   clear HA
   simp only [impl_moveSide.j0] at H
   by_cases c26 : x70_8 = true
   ·subst c26
    have H1 : ((impl_ballAt.f kj8 a0 a1_0 a1_2 (wrap64 ((wrap64 ((wrap64 (t681 - (wrap64 (2 * t682)))) - a2_0)) + 1))).bind fun bt684 => (some (bt684.1, bt684.2.1, bt684.2.2.1, !a2_3, bt684.2.2.2))) = some (r1, r2, r3, r4, r5) := by rw [if_pos rfl] at H; exact H
    clear H
    have H := H1
    clear H1
    replace H := Option.bind_eq_some_iff.mp H
    obtain ⟨⟨t684, t685, t686, t687⟩, A270, H⟩ := H
    have A27 := Aside0.mk A270
    clear A270
    simp only [Option.some.injEq, Prod.mk.injEq] at H
    obtain ⟨rfl, rfl, rfl, rfl, rfl⟩ := H
    have hnb28 := NB675_676.out
    have hnc28 := NB676_675.out
    have hnb29 := NB675_677.out
    have hnc29 := NB677_675.out
    have hcz30_0 : wc.cell? ⟨gb675, 0, none⟩ = some (.int .i64 a1_0) := (blk_cell BK675.out 0).trans rfl
    have hcz30_1 : wc.cell? ⟨gb675, 1, none⟩ = some (.int .i64 a1_1) := (blk_cell BK675.out 1).trans rfl
    have hcz30_2 : wc.cell? ⟨gb675, 2, none⟩ = some (.int .i64 a1_2) := (blk_cell BK675.out 2).trans rfl
    have hcz30_3 : wc.cell? ⟨gb675, 3, none⟩ = some (.int .i64 a1_3) := (blk_cell BK675.out 3).trans rfl
    have hfz30_0 := blk_frozen BK675.out 0
    have hfz30_1 := blk_frozen BK675.out 1
    have hfz30_2 := blk_frozen BK675.out 2
    have hfz30_3 := blk_frozen BK675.out 3
    have hnb31 := NB676_677.out
    have hnc31 := NB677_676.out
    have hcz32_0 : wc.cell? ⟨gb676, 0, none⟩ = some (.int .i64 a2_0) := (blk_cell BK676.out 0).trans rfl
    have hcz32_1 : wc.cell? ⟨gb676, 1, none⟩ = some (.int .i64 a2_1) := (blk_cell BK676.out 1).trans rfl
    have hcz32_2 : wc.cell? ⟨gb676, 2, none⟩ = some (.int .i64 a2_2) := (blk_cell BK676.out 2).trans rfl
    have hcz32_3 : wc.cell? ⟨gb676, 3, none⟩ = some (.bool a2_3) := (blk_cell BK676.out 3).trans rfl
    have hfz32_0 := blk_frozen BK676.out 0
    have hfz32_1 := blk_frozen BK676.out 1
    have hfz32_2 := blk_frozen BK676.out 2
    have hfz32_3 := blk_frozen BK676.out 3
    go_wp2_with (first | ((with_reducible refine gate_callee (f := 82) rfl ?_); refine goesL_ (some 88) rfl rfl Try.func82 (by kernel_rfl) rfl #[.int .i64 a0, .int .i64 a1_0, .int .i64 a1_2, .int .i64 (wrap64 ((wrap64 ((wrap64 (t681 - (wrap64 (2 * t682)))) - a2_0)) + 1))] rfl (by (try simp only [List.map_toArray, List.map_cons, List.map_nil]); first | done | rfl | (simp only [List.length_drop, List.length_take]; rfl)) ?_; (with_reducible refine (impl_ballAt.calls kj8 a0 a1_0 a1_2 (wrap64 ((wrap64 ((wrap64 (t681 - (wrap64 (2 * t682)))) - a2_0)) + 1)) t684 t685 t686 t687 _ A27.out).mono ?_); rintro e w33 ⟨rfl, hb⟩; refine ⟨_, rfl, ?_⟩; replace BK675 := bb_ BK675 hb; replace BK676 := bb_ BK676 hb; replace BK677 := bb_ BK677 hb; replace HB := bt_ HB hb; (try clear hb); (try clear hb2); (try clear hk); (try clear hi)) | ((with_reducible refine gate_dst (N := 14) rfl ?_); refine bx_ 14 #[.int .i64 0, .int .i64 0, .int .i64 0] 28 ?_; intro gb688 hg w34 hbox hb; have BK688 := Aside0.mk (hbox); have GW688 := bs_ HB hg; have GE688 := bs_ HB hg; have NB675_688 := bm_ BK675 hg; have NB688_675 := bn_ BK675 hg; have NB676_688 := bm_ BK676 hg; have NB688_676 := bn_ BK676 hg; have NB677_688 := bm_ BK677 hg; have NB688_677 := bn_ BK677 hg; replace BK675 := bb_ BK675 hb; replace BK676 := bb_ BK676 hb; replace BK677 := bb_ BK677 hb; replace HB := bt_ HB hb; clear hb hbox hg; have hnb35 := NB688_675.out; have hnc35 := NB675_688.out; have hnb36 := NB688_676.out; have hnc36 := NB676_688.out; have hnb37 := NB688_677.out; have hnc37 := NB677_688.out; have hcz38_0 : w34.cell? ⟨gb688, 0, none⟩ = some (.int .i64 0) := (blk_cell BK688.out 0).trans rfl; have hcz38_1 : w34.cell? ⟨gb688, 1, none⟩ = some (.int .i64 0) := (blk_cell BK688.out 1).trans rfl; have hcz38_2 : w34.cell? ⟨gb688, 2, none⟩ = some (.int .i64 0) := (blk_cell BK688.out 2).trans rfl; have hfz38_0 := blk_frozen BK688.out 0; have hfz38_1 := blk_frozen BK688.out 1; have hfz38_2 := blk_frozen BK688.out 2; have hcz39_0 : w34.cell? ⟨gb676, 0, none⟩ = some (.int .i64 a2_0) := (blk_cell BK676.out 0).trans rfl; have hcz39_1 : w34.cell? ⟨gb676, 1, none⟩ = some (.int .i64 a2_1) := (blk_cell BK676.out 1).trans rfl; have hcz39_2 : w34.cell? ⟨gb676, 2, none⟩ = some (.int .i64 a2_2) := (blk_cell BK676.out 2).trans rfl; have hcz39_3 : w34.cell? ⟨gb676, 3, none⟩ = some (.bool a2_3) := (blk_cell BK676.out 3).trans rfl; have hfz39_0 := blk_frozen BK676.out 0; have hfz39_1 := blk_frozen BK676.out 1; have hfz39_2 := blk_frozen BK676.out 2; have hfz39_3 := blk_frozen BK676.out 3; have hcz40_0 : w34.cell? ⟨gb677, 0, none⟩ = some (.int .i64 0) := (blk_cell BK677.out 0).trans rfl; have hcz40_1 : w34.cell? ⟨gb677, 1, none⟩ = some (.int .i64 0) := (blk_cell BK677.out 1).trans rfl; have hcz40_2 : w34.cell? ⟨gb677, 2, none⟩ = some (.int .i64 0) := (blk_cell BK677.out 2).trans rfl; have hcz40_3 : w34.cell? ⟨gb677, 3, none⟩ = some (.bool false) := (blk_cell BK677.out 3).trans rfl; have hfz40_0 := blk_frozen BK677.out 0; have hfz40_1 := blk_frozen BK677.out 1; have hfz40_2 := blk_frozen BK677.out 2; have hfz40_3 := blk_frozen BK677.out 3))
    refine bodyPost_ret (results_ct rfl _ _ gb677 30 #[.int .i64 t684, .int .i64 t685, .int .i64 t686, .bool (!a2_3)] (0, 0) _ rfl (by (with_reducible repeat first | apply blk_drewN | apply blk_drew | apply blk_alloc); refine blk_put (cs := #[.int .i64 t684, .int .i64 t685, .int .i64 t686, .bool false]) ?_ 3 _ rfl; (with_reducible repeat first | apply blk_drewN | apply blk_drew | apply blk_alloc); refine blk_put (cs := #[.int .i64 t684, .int .i64 t685, .int .i64 0, .bool false]) ?_ 2 _ rfl; (with_reducible repeat first | apply blk_drewN | apply blk_drew | apply blk_alloc); refine blk_put (cs := #[.int .i64 t684, .int .i64 0, .int .i64 0, .bool false]) ?_ 1 _ rfl; (with_reducible repeat first | apply blk_drewN | apply blk_drew | apply blk_alloc); refine blk_put (cs := #[.int .i64 0, .int .i64 0, .int .i64 0, .bool false]) ?_ 0 _ rfl; (with_reducible repeat first | apply blk_drewN | apply blk_drew | apply blk_alloc); refine blk_far ?_ NB677_688.out _; (with_reducible repeat first | apply blk_drewN | apply blk_drew | apply blk_alloc); refine blk_far ?_ NB677_688.out _; (with_reducible repeat first | apply blk_drewN | apply blk_drew | apply blk_alloc); refine blk_far ?_ NB677_688.out _; (with_reducible repeat first | apply blk_drewN | apply blk_drew | apply blk_alloc); exact BK677.out) Try.underlying30 rfl (by kernel_rfl)) rfl ?_
    exact ⟨by first | rfl | (simp [errW_none, errW_some] <;> rfl) | (simp [*, errW_none, errW_some] <;> rfl), by repeat (first | (with_reducible first | exact HB.out | apply below_alloc | apply pw_below_drewN | apply below_drew1 | refine below_set ?_ GE675.out | refine below_set ?_ GE676.out | refine below_set ?_ GE677.out | refine below_set ?_ GE688.out) | exact HB.out)⟩
   ·replace c26 := Bool.eq_false_iff.mpr c26
    subst c26
    have H1 : ((impl_valuation.f kj8 a0 (wrap64 ((wrap64 (a1_2 * t678)) + (wrap64 (a1_3 * t679))))).bind fun t689 => ((impl_ballAt.f kj8 a0 (wrap64 ((wrap64 (a1_0 * t678)) + (wrap64 (a1_1 * t679)))) (wrap64 ((wrap64 (a1_2 * t678)) + (wrap64 (a1_3 * t679)))) (wrap64 ((wrap64 (a2_0 + t681)) - (wrap64 (2 * (wrap64 (t689 - 6))))))).bind fun bt690 => (some (bt690.1, bt690.2.1, bt690.2.2.1, a2_3, bt690.2.2.2)))) = some (r1, r2, r3, r4, r5) := by rw [if_neg (show ¬ (false = true) by decide)] at H; exact H
    clear H
    have H := H1
    clear H1
    replace H := Option.bind_eq_some_iff.mp H
    obtain ⟨t689, A410, H⟩ := H
    have A41 := Aside0.mk A410
    clear A410
    replace H := Option.bind_eq_some_iff.mp H
    obtain ⟨⟨t690, t691, t692, t693⟩, A420, H⟩ := H
    have A42 := Aside0.mk A420
    clear A420
    simp only [Option.some.injEq, Prod.mk.injEq] at H
    obtain ⟨rfl, rfl, rfl, rfl, rfl⟩ := H
    try go_wp2
    replace BK675 := Aside0.mk (blk_drew BK675.out)
    replace BK676 := Aside0.mk (blk_drew BK676.out)
    replace BK677 := Aside0.mk (blk_drew BK677.out)
    replace HB := Aside0.mk (below_drew1 HB.out)
    refine start_ (n := 21) (S := fun w' => w'.cell? ⟨gb676, 0, none⟩ = some (.int .i64 a2_0) ∧ w'.cell? ⟨gb676, 1, none⟩ = some (.int .i64 a2_1) ∧ w'.cell? ⟨gb676, 2, none⟩ = some (.int .i64 a2_2) ∧ w'.cell? ⟨gb676, 3, none⟩ = some (.bool a2_3)) (ds := []) #[false, false, false, false, false, false, false, false, false, false, false, false, false, false, false, false, false, false, false, false, false] (by kernel_rfl) rfl rfl ⟨(blk_cell BK676.out 0).trans rfl, (blk_cell BK676.out 1).trans rfl, (blk_cell BK676.out 2).trans rfl, (blk_cell BK676.out 3).trans rfl⟩ (fun hHeld => ?_); refine with_tabW impl_moveSide.tab8 impl_moveSide.bits8 (fun HT_ HW_ => ?_)
    generalize wc.drew = w43 at BK675 BK676 BK677 HB hHeld ⊢
    refine pu_ HT_ 0 (some 98) #[true, false, false, false, false, false, false, false, false, false, false, false, false, false, false, false, false, false, false, false, false] ?_
    refine pu_ HT_ 1 (some 99) #[true, true, false, false, false, false, false, false, false, false, false, false, false, false, false, false, false, false, false, false, false] ?_
    refine pu_ HT_ 2 (some 100) #[true, true, true, false, false, false, false, false, false, false, false, false, false, false, false, false, false, false, false, false, false] ?_
    refine pu_ HT_ 3 (some 101) #[true, true, true, true, false, false, false, false, false, false, false, false, false, false, false, false, false, false, false, false, false] ?_
    refine pu_ HT_ 4 (some 102) #[true, true, true, true, true, false, false, false, false, false, false, false, false, false, false, false, false, false, false, false, false] ?_
    refine pu_ HT_ 6 (some 104) #[true, true, true, true, true, false, true, false, false, false, false, false, false, false, false, false, false, false, false, false, false] ?_
    refine pu_ HT_ 8 (some 106) #[true, true, true, true, true, false, true, false, true, false, false, false, false, false, false, false, false, false, false, false, false] ?_
    refine pu_ HT_ 9 (some 107) #[true, true, true, true, true, false, true, false, true, true, false, false, false, false, false, false, false, false, false, false, false] ?_
    refine ta_ HT_ HW_ 5 (some 103) #[true, true, true, true, true, true, true, false, true, true, false, false, false, false, false, false, false, false, false, false, false] hHeld ?_ (hy := by rintro w' ⟨s0, s1, s2, s3⟩; go_simp; with_reducible rfl)
    refine pu_ HT_ 7 (some 105) #[true, true, true, true, true, true, true, true, true, true, false, false, false, false, false, false, false, false, false, false, false] ?_
    refine join_ (σ := Nat) 2 #[true, true, true, true, true, true, true, true, true, true, true, true, true, true, true, true, true, true, true, false, false] (fun s_ => [(108, .int .i64 t689), (112, .tuple #[.agg #[.int .i64 t690, .int .i64 t691, .int .i64 t692], .bool t693]), (16, .pointer (some ⟨s_, 0, none⟩)), (109, .int .i64 (wrap64 (t689 - 6))), (110, .int .i64 (wrap64 (2 * (wrap64 (t689 - 6))))), (111, .int .i64 (wrap64 ((wrap64 (a2_0 + t681)) - (wrap64 (2 * (wrap64 (t689 - 6))))))), (97, .tuple #[.agg #[.int .i64 t690, .int .i64 t691, .int .i64 t692], .bool t693]), (113, .agg #[.int .i64 t690, .int .i64 t691, .int .i64 t692]), (114, .bool t693)]) (fun s_ w' => (w'.cell? ⟨gb676, 0, none⟩ = some (.int .i64 a2_0) ∧ w'.cell? ⟨gb676, 1, none⟩ = some (.int .i64 a2_1) ∧ w'.cell? ⟨gb676, 2, none⟩ = some (.int .i64 a2_2) ∧ w'.cell? ⟨gb676, 3, none⟩ = some (.bool a2_3)) ∧ (w'.heap[gb675]? = some (.cells #[.int .i64 a1_0, .int .i64 a1_1, .int .i64 a1_2, .int .i64 a1_3] 33 (0, 0))) ∧ (w'.heap[gb676]? = some (.cells #[.int .i64 a2_0, .int .i64 a2_1, .int .i64 a2_2, .bool a2_3] 30 (0, 0))) ∧ (w'.heap[gb677]? = some (.cells #[.int .i64 0, .int .i64 0, .int .i64 0, .bool false] 30 (0, 0))) ∧ (w'.heap[s_]? = some (.cells #[.int .i64 0, .int .i64 0, .int .i64 0] 28 (0, 0))) ∧ (w.heap.size ≤ s_) ∧ (w.heap.size ≤ s_) ∧ (gb675 ≠ s_) ∧ (s_ ≠ gb675) ∧ (gb676 ≠ s_) ∧ (s_ ≠ gb676) ∧ (gb677 ≠ s_) ∧ (s_ ≠ gb677) ∧ (Below w.heap.size w w')) ?_ ?_
    rotate_left
    ·intro hCont
     refine two_ (i := 10) (j := 18) (Ni := some 108) (Nj := some 16) #[true, true, true, true, true, true, true, true, true, true, true, false, false, false, false, false, false, false, false, false, false] #[true, true, true, true, true, true, true, true, true, true, false, false, false, false, false, false, false, false, true, false, false] rfl rfl rfl rfl (two_of HT_.out (by kernel_rfl)) (by decide) (by decide) (fun K hK => ?_) (fun K hK => ?_)
     ·skip
      refine goes_ Try.func81 (by kernel_rfl) rfl #[.int .i64 a0, .int .i64 (wrap64 ((wrap64 (a1_2 * t678)) + (wrap64 (a1_3 * t679))))] (by rfl) rfl rfl (by (try simp only [List.map_toArray, List.map_cons, List.map_nil]); first | done | rfl | (simp only [List.length_drop, List.length_take]; rfl)) ?_
      with_reducible refine (impl_valuation.calls kj8 a0 (wrap64 ((wrap64 (a1_2 * t678)) + (wrap64 (a1_3 * t679)))) t689 _ A41.out).mono ?_
      rintro e w' ⟨rfl, ⟨nd, rfl⟩⟩
      refine ⟨_, rfl, ?_⟩
      refine hK.out _ _ ⟨(blk_cell BK676.out 0).trans rfl, (blk_cell BK676.out 1).trans rfl, (blk_cell BK676.out 2).trans rfl, (blk_cell BK676.out 3).trans rfl⟩ (fun hHeld => ?_)
      clear hK K
      refine norm_ (a' := ?_) ?_ ?_
      rotate_left
      ·show Act.put _ (some 108) _ = _
       simp only [Act.put, lstS, lstZ, lstC, i64_w, i32_w]
       rfl
      refine pu_ HT_ 11 (some 109) #[true, true, true, true, true, true, true, true, true, true, true, true, false, false, false, false, false, false, false, false, false] ?_
      refine pu_ HT_ 12 (some 110) #[true, true, true, true, true, true, true, true, true, true, true, true, true, false, false, false, false, false, false, false, false] ?_
      refine pu_ HT_ 13 (some 111) #[true, true, true, true, true, true, true, true, true, true, true, true, true, true, false, false, false, false, false, false, false] ?_
      refine two_ (i := 14) (j := 18) (Ni := some 112) (Nj := some 16) #[true, true, true, true, true, true, true, true, true, true, true, true, true, true, true, false, false, false, false, false, false] #[true, true, true, true, true, true, true, true, true, true, true, true, true, true, false, false, false, false, true, false, false] rfl rfl rfl rfl (two_of HT_.out (by kernel_rfl)) (by decide) (by decide) (fun K hK => ?_) (fun K hK => ?_)
      ·skip
       refine goes_ Try.func82 (by kernel_rfl) rfl #[.int .i64 a0, .int .i64 (wrap64 ((wrap64 (a1_0 * t678)) + (wrap64 (a1_1 * t679)))), .int .i64 (wrap64 ((wrap64 (a1_2 * t678)) + (wrap64 (a1_3 * t679)))), .int .i64 (wrap64 ((wrap64 (a2_0 + t681)) - (wrap64 (2 * (wrap64 (t689 - 6))))))] (by rfl) rfl rfl (by (try simp only [List.map_toArray, List.map_cons, List.map_nil]); first | done | rfl | (simp only [List.length_drop, List.length_take]; rfl)) ?_
       with_reducible refine (impl_ballAt.calls kj8 a0 (wrap64 ((wrap64 (a1_0 * t678)) + (wrap64 (a1_1 * t679)))) (wrap64 ((wrap64 (a1_2 * t678)) + (wrap64 (a1_3 * t679)))) (wrap64 ((wrap64 (a2_0 + t681)) - (wrap64 (2 * (wrap64 (t689 - 6)))))) t690 t691 t692 t693 _ A42.out).mono ?_
       rintro e w44 ⟨rfl, hb⟩
       refine ⟨_, rfl, ?_⟩
       replace BK675 := bb_ BK675 hb
       replace BK676 := bb_ BK676 hb
       replace BK677 := bb_ BK677 hb
       replace HB := bt_ HB hb
       (try clear hb)
       (try clear hb2)
       (try clear hk)
       (try clear hi)
       refine hK.out _ _ ⟨(blk_cell BK676.out 0).trans rfl, (blk_cell BK676.out 1).trans rfl, (blk_cell BK676.out 2).trans rfl, (blk_cell BK676.out 3).trans rfl⟩ (fun hHeld => ?_)
       clear hK K
       refine norm_ (a' := ?_) ?_ ?_
       rotate_left
       ·show Act.put _ (some 112) _ = _
        simp only [Act.put, lstS, lstZ, lstC, i64_w, i32_w]
        rfl
       refine pu_ HT_ 15 (some 97) #[true, true, true, true, true, true, true, true, true, true, true, true, true, true, true, true, false, false, false, false, false] ?_
       refine pu_ HT_ 16 (some 113) #[true, true, true, true, true, true, true, true, true, true, true, true, true, true, true, true, true, false, false, false, false] ?_
       refine pu_ HT_ 17 (some 114) #[true, true, true, true, true, true, true, true, true, true, true, true, true, true, true, true, true, true, false, false, false] ?_
       refine one_ (i := 18) (N := some 16) #[true, true, true, true, true, true, true, true, true, true, true, true, true, true, true, true, true, true, true, false, false] rfl rfl (one_of HT_.out (by kernel_rfl)) (by decide) (fun K hK => ?_)
       refine box_step ?hg (N := 16) ?hd (cs := #[.int .i64 0, .int .i64 0, .int .i64 0]) (t := 28) ?hr ?_; (case hd => rfl); (case hg => rfl); (case hr => first | (go_simp; done) | (go_simp; rfl))
       intro gb694 hg w45 hbox hb
       have BK694 := Aside0.mk (hbox)
       have GW694 := bs_ HB hg
       have GE694 := bs_ HB hg
       have NB675_694 := bm_ BK675 hg
       have NB694_675 := bn_ BK675 hg
       have NB676_694 := bm_ BK676 hg
       have NB694_676 := bn_ BK676 hg
       have NB677_694 := bm_ BK677 hg
       have NB694_677 := bn_ BK677 hg
       replace BK675 := bb_ BK675 hb
       replace BK676 := bb_ BK676 hb
       replace BK677 := bb_ BK677 hb
       replace HB := bt_ HB hb
       clear hb hbox hg
       refine hK.out _ _ ⟨(blk_cell BK676.out 0).trans rfl, (blk_cell BK676.out 1).trans rfl, (blk_cell BK676.out 2).trans rfl, (blk_cell BK676.out 3).trans rfl⟩ (fun hHeld => ?_)
       clear hK K
       refine norm_ (a' := ?_) ?_ ?_
       rotate_left
       ·show Act.put _ (some 16) _ = _
        simp only [Act.put, lstS, lstZ, lstC, i64_w, i32_w]
        rfl
       exact norm_ (by simp only [putAll, Act.put, lstS, lstZ, lstC]) (hCont (gb694) _ ⟨hHeld, (bl_ BK675).out, (bl_ BK676).out, (bl_ BK677).out, (bl_ BK694).out, GW694.out, GE694.out, NB675_694.out, NB694_675.out, NB676_694.out, NB694_676.out, NB677_694.out, NB694_677.out, (bw_ HB).out⟩)
      ·skip
       refine box_step ?hg (N := 16) ?hd (cs := #[.int .i64 0, .int .i64 0, .int .i64 0]) (t := 28) ?hr ?_; (case hd => rfl); (case hg => rfl); (case hr => first | (go_simp; done) | (go_simp; rfl))
       intro gb694 hg w44 hbox hb
       have BK694 := Aside0.mk (hbox)
       have GW694 := bs_ HB hg
       have GE694 := bs_ HB hg
       have NB675_694 := bm_ BK675 hg
       have NB694_675 := bn_ BK675 hg
       have NB676_694 := bm_ BK676 hg
       have NB694_676 := bn_ BK676 hg
       have NB677_694 := bm_ BK677 hg
       have NB694_677 := bn_ BK677 hg
       replace BK675 := bb_ BK675 hb
       replace BK676 := bb_ BK676 hb
       replace BK677 := bb_ BK677 hb
       replace HB := bt_ HB hb
       clear hb hbox hg
       refine hK.out _ _ ⟨(blk_cell BK676.out 0).trans rfl, (blk_cell BK676.out 1).trans rfl, (blk_cell BK676.out 2).trans rfl, (blk_cell BK676.out 3).trans rfl⟩ (fun hHeld => ?_)
       clear hK K
       refine norm_ (a' := ?_) ?_ ?_
       rotate_left
       ·show Act.put _ (some 16) _ = _
        simp only [Act.put, lstS, lstZ, lstC, i64_w, i32_w]
        rfl
       refine one_ (i := 14) (N := some 112) #[true, true, true, true, true, true, true, true, true, true, true, true, true, true, true, false, false, false, true, false, false] rfl rfl (one_of HT_.out (by kernel_rfl)) (by decide) (fun K hK => ?_)
       refine goes_ Try.func82 (by kernel_rfl) rfl #[.int .i64 a0, .int .i64 (wrap64 ((wrap64 (a1_0 * t678)) + (wrap64 (a1_1 * t679)))), .int .i64 (wrap64 ((wrap64 (a1_2 * t678)) + (wrap64 (a1_3 * t679)))), .int .i64 (wrap64 ((wrap64 (a2_0 + t681)) - (wrap64 (2 * (wrap64 (t689 - 6))))))] (by rfl) rfl rfl (by (try simp only [List.map_toArray, List.map_cons, List.map_nil]); first | done | rfl | (simp only [List.length_drop, List.length_take]; rfl)) ?_
       with_reducible refine (impl_ballAt.calls kj8 a0 (wrap64 ((wrap64 (a1_0 * t678)) + (wrap64 (a1_1 * t679)))) (wrap64 ((wrap64 (a1_2 * t678)) + (wrap64 (a1_3 * t679)))) (wrap64 ((wrap64 (a2_0 + t681)) - (wrap64 (2 * (wrap64 (t689 - 6)))))) t690 t691 t692 t693 _ A42.out).mono ?_
       rintro e w45 ⟨rfl, hb⟩
       refine ⟨_, rfl, ?_⟩
       replace BK675 := bb_ BK675 hb
       replace BK676 := bb_ BK676 hb
       replace BK677 := bb_ BK677 hb
       replace BK694 := bb_ BK694 hb
       replace HB := bt_ HB hb
       (try clear hb)
       (try clear hb2)
       (try clear hk)
       (try clear hi)
       refine hK.out _ _ ⟨(blk_cell BK676.out 0).trans rfl, (blk_cell BK676.out 1).trans rfl, (blk_cell BK676.out 2).trans rfl, (blk_cell BK676.out 3).trans rfl⟩ (fun hHeld => ?_)
       clear hK K
       refine norm_ (a' := ?_) ?_ ?_
       rotate_left
       ·show Act.put _ (some 112) _ = _
        simp only [Act.put, lstS, lstZ, lstC, i64_w, i32_w]
        rfl
       refine pu_ HT_ 15 (some 97) #[true, true, true, true, true, true, true, true, true, true, true, true, true, true, true, true, false, false, true, false, false] ?_
       refine pu_ HT_ 16 (some 113) #[true, true, true, true, true, true, true, true, true, true, true, true, true, true, true, true, true, false, true, false, false] ?_
       refine pu_ HT_ 17 (some 114) #[true, true, true, true, true, true, true, true, true, true, true, true, true, true, true, true, true, true, true, false, false] ?_
       exact norm_ (by simp only [putAll, Act.put, lstS, lstZ, lstC]) (hCont (gb694) _ ⟨hHeld, (bl_ BK675).out, (bl_ BK676).out, (bl_ BK677).out, (bl_ BK694).out, GW694.out, GE694.out, NB675_694.out, NB694_675.out, NB676_694.out, NB694_676.out, NB677_694.out, NB694_677.out, (bw_ HB).out⟩)
     ·skip
      refine box_step ?hg (N := 16) ?hd (cs := #[.int .i64 0, .int .i64 0, .int .i64 0]) (t := 28) ?hr ?_; (case hd => rfl); (case hg => rfl); (case hr => first | (go_simp; done) | (go_simp; rfl))
      intro gb694 hg w44 hbox hb
      have BK694 := Aside0.mk (hbox)
      have GW694 := bs_ HB hg
      have GE694 := bs_ HB hg
      have NB675_694 := bm_ BK675 hg
      have NB694_675 := bn_ BK675 hg
      have NB676_694 := bm_ BK676 hg
      have NB694_676 := bn_ BK676 hg
      have NB677_694 := bm_ BK677 hg
      have NB694_677 := bn_ BK677 hg
      replace BK675 := bb_ BK675 hb
      replace BK676 := bb_ BK676 hb
      replace BK677 := bb_ BK677 hb
      replace HB := bt_ HB hb
      clear hb hbox hg
      refine hK.out _ _ ⟨(blk_cell BK676.out 0).trans rfl, (blk_cell BK676.out 1).trans rfl, (blk_cell BK676.out 2).trans rfl, (blk_cell BK676.out 3).trans rfl⟩ (fun hHeld => ?_)
      clear hK K
      refine norm_ (a' := ?_) ?_ ?_
      rotate_left
      ·show Act.put _ (some 16) _ = _
       simp only [Act.put, lstS, lstZ, lstC, i64_w, i32_w]
       rfl
      refine one_ (i := 10) (N := some 108) #[true, true, true, true, true, true, true, true, true, true, true, false, false, false, false, false, false, false, true, false, false] rfl rfl (one_of HT_.out (by kernel_rfl)) (by decide) (fun K hK => ?_)
      refine goes_ Try.func81 (by kernel_rfl) rfl #[.int .i64 a0, .int .i64 (wrap64 ((wrap64 (a1_2 * t678)) + (wrap64 (a1_3 * t679))))] (by rfl) rfl rfl (by (try simp only [List.map_toArray, List.map_cons, List.map_nil]); first | done | rfl | (simp only [List.length_drop, List.length_take]; rfl)) ?_
      with_reducible refine (impl_valuation.calls kj8 a0 (wrap64 ((wrap64 (a1_2 * t678)) + (wrap64 (a1_3 * t679)))) t689 _ A41.out).mono ?_
      rintro e w' ⟨rfl, ⟨nd, rfl⟩⟩
      refine ⟨_, rfl, ?_⟩
      refine hK.out _ _ ⟨(blk_cell BK676.out 0).trans rfl, (blk_cell BK676.out 1).trans rfl, (blk_cell BK676.out 2).trans rfl, (blk_cell BK676.out 3).trans rfl⟩ (fun hHeld => ?_)
      clear hK K
      refine norm_ (a' := ?_) ?_ ?_
      rotate_left
      ·show Act.put _ (some 108) _ = _
       simp only [Act.put, lstS, lstZ, lstC, i64_w, i32_w]
       rfl
      refine pu_ HT_ 11 (some 109) #[true, true, true, true, true, true, true, true, true, true, true, true, false, false, false, false, false, false, true, false, false] ?_
      refine pu_ HT_ 12 (some 110) #[true, true, true, true, true, true, true, true, true, true, true, true, true, false, false, false, false, false, true, false, false] ?_
      refine pu_ HT_ 13 (some 111) #[true, true, true, true, true, true, true, true, true, true, true, true, true, true, false, false, false, false, true, false, false] ?_
      refine one_ (i := 14) (N := some 112) #[true, true, true, true, true, true, true, true, true, true, true, true, true, true, true, false, false, false, true, false, false] rfl rfl (one_of HT_.out (by kernel_rfl)) (by decide) (fun K hK => ?_)
      refine goes_ Try.func82 (by kernel_rfl) rfl #[.int .i64 a0, .int .i64 (wrap64 ((wrap64 (a1_0 * t678)) + (wrap64 (a1_1 * t679)))), .int .i64 (wrap64 ((wrap64 (a1_2 * t678)) + (wrap64 (a1_3 * t679)))), .int .i64 (wrap64 ((wrap64 (a2_0 + t681)) - (wrap64 (2 * (wrap64 (t689 - 6))))))] (by rfl) rfl rfl (by (try simp only [List.map_toArray, List.map_cons, List.map_nil]); first | done | rfl | (simp only [List.length_drop, List.length_take]; rfl)) ?_
      with_reducible refine (impl_ballAt.calls kj8 a0 (wrap64 ((wrap64 (a1_0 * t678)) + (wrap64 (a1_1 * t679)))) (wrap64 ((wrap64 (a1_2 * t678)) + (wrap64 (a1_3 * t679)))) (wrap64 ((wrap64 (a2_0 + t681)) - (wrap64 (2 * (wrap64 (t689 - 6)))))) t690 t691 t692 t693 _ A42.out).mono ?_
      rintro e w45 ⟨rfl, hb⟩
      refine ⟨_, rfl, ?_⟩
      replace BK675 := bb_ BK675 hb
      replace BK676 := bb_ BK676 hb
      replace BK677 := bb_ BK677 hb
      replace BK694 := bb_ BK694 hb
      replace HB := bt_ HB hb
      (try clear hb)
      (try clear hb2)
      (try clear hk)
      (try clear hi)
      refine hK.out _ _ ⟨(blk_cell BK676.out 0).trans rfl, (blk_cell BK676.out 1).trans rfl, (blk_cell BK676.out 2).trans rfl, (blk_cell BK676.out 3).trans rfl⟩ (fun hHeld => ?_)
      clear hK K
      refine norm_ (a' := ?_) ?_ ?_
      rotate_left
      ·show Act.put _ (some 112) _ = _
       simp only [Act.put, lstS, lstZ, lstC, i64_w, i32_w]
       rfl
      refine pu_ HT_ 15 (some 97) #[true, true, true, true, true, true, true, true, true, true, true, true, true, true, true, true, false, false, true, false, false] ?_
      refine pu_ HT_ 16 (some 113) #[true, true, true, true, true, true, true, true, true, true, true, true, true, true, true, true, true, false, true, false, false] ?_
      refine pu_ HT_ 17 (some 114) #[true, true, true, true, true, true, true, true, true, true, true, true, true, true, true, true, true, true, true, false, false] ?_
      exact norm_ (by simp only [putAll, Act.put, lstS, lstZ, lstC]) (hCont (gb694) _ ⟨hHeld, (bl_ BK675).out, (bl_ BK676).out, (bl_ BK677).out, (bl_ BK694).out, GW694.out, GE694.out, NB675_694.out, NB694_675.out, NB676_694.out, NB694_676.out, NB677_694.out, NB694_677.out, (bw_ HB).out⟩)
    rintro gb694 w46 ⟨hS_, h0_, h1_, h2_, h3_, h4_, h5_, h6_, h7_, h8_, h9_, h10_, h11_, h12_⟩
    have n0_ : Aside0 (w46.heap[gb675]? = some (.cells #[.int .i64 a1_0, .int .i64 a1_1, .int .i64 a1_2, .int .i64 a1_3] 33 (0, 0))) := ⟨h0_⟩
    have n1_ : Aside0 (w46.heap[gb676]? = some (.cells #[.int .i64 a2_0, .int .i64 a2_1, .int .i64 a2_2, .bool a2_3] 30 (0, 0))) := ⟨h1_⟩
    have n2_ : Aside0 (w46.heap[gb677]? = some (.cells #[.int .i64 0, .int .i64 0, .int .i64 0, .bool false] 30 (0, 0))) := ⟨h2_⟩
    have n3_ : Aside0 (w46.heap[gb694]? = some (.cells #[.int .i64 0, .int .i64 0, .int .i64 0] 28 (0, 0))) := ⟨h3_⟩
    have n4_ : Aside0 (w.heap.size ≤ gb694) := ⟨h4_⟩
    have n5_ : Aside0 (w.heap.size ≤ gb694) := ⟨h5_⟩
    have n6_ : Aside0 (gb675 ≠ gb694) := ⟨h6_⟩
    have n7_ : Aside0 (gb694 ≠ gb675) := ⟨h7_⟩
    have n8_ : Aside0 (gb676 ≠ gb694) := ⟨h8_⟩
    have n9_ : Aside0 (gb694 ≠ gb676) := ⟨h9_⟩
    have n10_ : Aside0 (gb677 ≠ gb694) := ⟨h10_⟩
    have n11_ : Aside0 (gb694 ≠ gb677) := ⟨h11_⟩
    have n12_ : Aside0 (Below w.heap.size w w46) := ⟨h12_⟩
    clear BK675
    clear BK676
    clear BK677
    clear HB
    clear h0_ h1_ h2_ h3_ h4_ h5_ h6_ h7_ h8_ h9_ h10_ h11_ h12_
    have BK675 := n0_
    have BK676 := n1_
    have BK677 := n2_
    have BK694 := n3_
    have GW694 := n4_
    have GE694 := n5_
    have NB675_694 := n6_
    have NB694_675 := n7_
    have NB676_694 := n8_
    have NB694_676 := n9_
    have NB677_694 := n10_
    have NB694_677 := n11_
    have HB := n12_
    clear n0_ n1_ n2_ n3_ n4_ n5_ n6_ n7_ n8_ n9_ n10_ n11_ n12_
    have hHeld : w46.cell? ⟨gb676, 0, none⟩ = some (.int .i64 a2_0) ∧ w46.cell? ⟨gb676, 1, none⟩ = some (.int .i64 a2_1) ∧ w46.cell? ⟨gb676, 2, none⟩ = some (.int .i64 a2_2) ∧ w46.cell? ⟨gb676, 3, none⟩ = some (.bool a2_3) := hS_
    refine norm_ (a' := ?_) ?_ ?_
    rotate_left
    ·simp only [putAll, Act.put, lstS, lstZ, lstC]
     rfl
    refine one_ (i := 19) (N := none) #[true, true, true, true, true, true, true, true, true, true, true, true, true, true, true, true, true, true, true, true, false] rfl rfl (one_of HT_.out (by kernel_rfl)) (by decide) (fun K hK => ?_)
    have hs47 : w46.cell? ⟨gb694, 0, none⟩ = some (.int .i64 0) := (blk_cell BK694.out 0).trans rfl
    have hfs47 := blk_frozen BK694.out 0
    have hns47_0 := NB675_694.out
    have hns47_1 := NB676_694.out
    have hns47_2 := NB677_694.out
    have hms47_0 := NB694_675.out
    have hms47_1 := NB694_676.out
    have hms47_2 := NB694_677.out
    have hs48 : w46.cell? ⟨gb694, 1, none⟩ = some (.int .i64 0) := (blk_cell BK694.out 1).trans rfl
    have hfs48 := blk_frozen BK694.out 1
    have hns48_0 := NB675_694.out
    have hns48_1 := NB676_694.out
    have hns48_2 := NB677_694.out
    have hms48_0 := NB694_675.out
    have hms48_1 := NB694_676.out
    have hms48_2 := NB694_677.out
    have hs49 : w46.cell? ⟨gb694, 2, none⟩ = some (.int .i64 0) := (blk_cell BK694.out 2).trans rfl
    have hfs49 := blk_frozen BK694.out 2
    have hns49_0 := NB675_694.out
    have hns49_1 := NB676_694.out
    have hns49_2 := NB677_694.out
    have hms49_0 := NB694_675.out
    have hms49_1 := NB694_676.out
    have hms49_2 := NB694_677.out
    refine skip_ (w1 := ?_) (by rfl) rfl ?_ ?_
    rotate_left
    ·go_simp
     rfl
    refine hK.out _ _ ⟨((cell_far (p := ⟨gb694, _, none⟩) NB676_694.out _).trans (((cell_far (p := ⟨gb694, _, none⟩) NB676_694.out _).trans (((cell_far (p := ⟨gb694, _, none⟩) NB676_694.out _).trans (hHeld.1)))))), ((cell_far (p := ⟨gb694, _, none⟩) NB676_694.out _).trans (((cell_far (p := ⟨gb694, _, none⟩) NB676_694.out _).trans (((cell_far (p := ⟨gb694, _, none⟩) NB676_694.out _).trans (hHeld.2.1)))))), ((cell_far (p := ⟨gb694, _, none⟩) NB676_694.out _).trans (((cell_far (p := ⟨gb694, _, none⟩) NB676_694.out _).trans (((cell_far (p := ⟨gb694, _, none⟩) NB676_694.out _).trans (hHeld.2.2.1)))))), ((cell_far (p := ⟨gb694, _, none⟩) NB676_694.out _).trans (((cell_far (p := ⟨gb694, _, none⟩) NB676_694.out _).trans (((cell_far (p := ⟨gb694, _, none⟩) NB676_694.out _).trans (hHeld.2.2.2))))))⟩ (fun hHeld => ?_)
    clear hK K
    refine pu_ HT_ 20 (some 17) #[true, true, true, true, true, true, true, true, true, true, true, true, true, true, true, true, true, true, true, true, true] ?_
    refine done_ (done_of HT_.out (by kernel_rfl)) ?_
    have hnb50 := NB694_675.out
    have hnc50 := NB675_694.out
    have hnb51 := NB694_676.out
    have hnc51 := NB676_694.out
    have hnb52 := NB694_677.out
    have hnc52 := NB677_694.out
    have hcz53_0 : w46.cell? ⟨gb694, 0, none⟩ = some (.int .i64 0) := (blk_cell BK694.out 0).trans rfl
    have hcz53_1 : w46.cell? ⟨gb694, 1, none⟩ = some (.int .i64 0) := (blk_cell BK694.out 1).trans rfl
    have hcz53_2 : w46.cell? ⟨gb694, 2, none⟩ = some (.int .i64 0) := (blk_cell BK694.out 2).trans rfl
    have hfz53_0 := blk_frozen BK694.out 0
    have hfz53_1 := blk_frozen BK694.out 1
    have hfz53_2 := blk_frozen BK694.out 2
    have hnb54 := NB676_675.out
    have hnc54 := NB675_676.out
    have hnb55 := NB676_677.out
    have hnc55 := NB677_676.out
    have hcz56_0 : w46.cell? ⟨gb676, 0, none⟩ = some (.int .i64 a2_0) := (blk_cell BK676.out 0).trans rfl
    have hcz56_1 : w46.cell? ⟨gb676, 1, none⟩ = some (.int .i64 a2_1) := (blk_cell BK676.out 1).trans rfl
    have hcz56_2 : w46.cell? ⟨gb676, 2, none⟩ = some (.int .i64 a2_2) := (blk_cell BK676.out 2).trans rfl
    have hcz56_3 : w46.cell? ⟨gb676, 3, none⟩ = some (.bool a2_3) := (blk_cell BK676.out 3).trans rfl
    have hfz56_0 := blk_frozen BK676.out 0
    have hfz56_1 := blk_frozen BK676.out 1
    have hfz56_2 := blk_frozen BK676.out 2
    have hfz56_3 := blk_frozen BK676.out 3
    have hnb57 := NB677_675.out
    have hnc57 := NB675_677.out
    have hcz58_0 : w46.cell? ⟨gb677, 0, none⟩ = some (.int .i64 0) := (blk_cell BK677.out 0).trans rfl
    have hcz58_1 : w46.cell? ⟨gb677, 1, none⟩ = some (.int .i64 0) := (blk_cell BK677.out 1).trans rfl
    have hcz58_2 : w46.cell? ⟨gb677, 2, none⟩ = some (.int .i64 0) := (blk_cell BK677.out 2).trans rfl
    have hcz58_3 : w46.cell? ⟨gb677, 3, none⟩ = some (.bool false) := (blk_cell BK677.out 3).trans rfl
    have hfz58_0 := blk_frozen BK677.out 0
    have hfz58_1 := blk_frozen BK677.out 1
    have hfz58_2 := blk_frozen BK677.out 2
    have hfz58_3 := blk_frozen BK677.out 3
    try go_wp2
    refine bodyPost_ret (results_ct rfl _ _ gb677 30 #[.int .i64 t690, .int .i64 t691, .int .i64 t692, .bool a2_3] (0, 0) _ rfl (by (with_reducible repeat first | apply blk_drewN | apply blk_drew | apply blk_alloc); refine blk_put (cs := #[.int .i64 t690, .int .i64 t691, .int .i64 t692, .bool false]) ?_ 3 _ rfl; (with_reducible repeat first | apply blk_drewN | apply blk_drew | apply blk_alloc); refine blk_put (cs := #[.int .i64 t690, .int .i64 t691, .int .i64 0, .bool false]) ?_ 2 _ rfl; (with_reducible repeat first | apply blk_drewN | apply blk_drew | apply blk_alloc); refine blk_put (cs := #[.int .i64 t690, .int .i64 0, .int .i64 0, .bool false]) ?_ 1 _ rfl; (with_reducible repeat first | apply blk_drewN | apply blk_drew | apply blk_alloc); refine blk_put (cs := #[.int .i64 0, .int .i64 0, .int .i64 0, .bool false]) ?_ 0 _ rfl; (with_reducible repeat first | apply blk_drewN | apply blk_drew | apply blk_alloc); refine blk_far ?_ NB677_694.out _; (with_reducible repeat first | apply blk_drewN | apply blk_drew | apply blk_alloc); refine blk_far ?_ NB677_694.out _; (with_reducible repeat first | apply blk_drewN | apply blk_drew | apply blk_alloc); refine blk_far ?_ NB677_694.out _; (with_reducible repeat first | apply blk_drewN | apply blk_drew | apply blk_alloc); exact BK677.out) Try.underlying30 rfl (by kernel_rfl)) rfl ?_
    exact ⟨by first | rfl | (simp [errW_none, errW_some] <;> rfl) | (simp [*, errW_none, errW_some] <;> rfl), by repeat (first | (with_reducible first | exact HB.out | apply below_alloc | apply pw_below_drewN | apply below_drew1 | refine below_set ?_ GE675.out | refine below_set ?_ GE676.out | refine below_set ?_ GE677.out | refine below_set ?_ GE694.out) | exact HB.out)⟩
end Go.Proofs.Ytojpcbbmbnmchaa.QC
