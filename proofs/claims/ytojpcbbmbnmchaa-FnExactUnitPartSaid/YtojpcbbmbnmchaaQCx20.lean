-- Written by a program of this session out of Lean's own print of the loaded program; Lean checks it.
import Derived.Test.YtojpcbbmbnmchaaQCx4
import Derived.Test.YtojpcbbmbnmchaaQCx9
import Derived.Test.YtojpcbbmbnmchaaQCx12
import Derived.Test.YtojpcbbmbnmchaaQCx18
import Derived.Test.YtojpcbbmbnmchaaQCx28
namespace Go.Proofs.Ytojpcbbmbnmchaa.QC
open Go.RowKit Go.Proofs.YtojpcbbmbnmchaaW.PrintWords Go.Proofs.YtojpcbbmbnmchaaW.PrintLast Go.Proofs.YtojpcbbmbnmchaaW.PrintMore
attribute [local go_sem] isSome_setCell max2_int min2_int max_two min_two max_three min_three max_four min_four   -- for this text's walks alone
set_option linter.unusedVariables false
set_option linter.unusedSimpArgs false

/-! ### spec_l04Move: function 52 -/
mutual
def spec_l04Move.j0 : Nat → Int → Int → Bool → Int → Int → Int → Int → Int → Int → Int → Int → Int → Int → Int → Option (Int × Int × Int × Bool)
 | 0, _, _, _, _, _, _, _, _, _, _, _, _, _, _ => none
 | k + 1, x0, x8, x91, x149000, x149001, x149002, x149003, x150000, x150001, x150002, x155000, x155001, x156000, x156001 => if x91 = true then (spec_l04Move.j1 k x0 x8 x149000 x149001 x149002 x149003 x150000 x150001 x150002 x155000 x155001) else (spec_l04Move.j1 k x0 x8 x149000 x149001 x149002 x149003 x150000 x150001 x150002 x156000 x156001)
def spec_l04Move.j1 : Nat → Int → Int → Int → Int → Int → Int → Int → Int → Int → Int → Int → Option (Int × Int × Int × Bool)
 | 0, _, _, _, _, _, _, _, _, _, _, _ => none
 | k + 1, x0, x8, x149000, x149001, x149002, x149003, x150000, x150001, x150002, x156000, x156001 => (spec_l04Det.f x149000 x149001 x149002 x149003).bind fun t158 => ((spec_l01Val.f k x0 t158).bind fun t159 => ((spec_l01Val.f k x0 x156001).bind fun t160 => ((spec_l01Of.f k x0 x156000 x156001 (wrap64 ((wrap64 ((wrap64 (t159 + x150000)) + (wrap64 (2 * x8)))) - (wrap64 (2 * t160))))).bind fun bt161 => (some (bt161.1, bt161.2.1, bt161.2.2.1, bt161.2.2.2)))))
end
def spec_l04Move.f (k : Nat) (a0 : Int) (a1_0 : Int) (a1_1 : Int) (a1_2 : Int) (a1_3 : Int) (a2_0 : Int) (a2_1 : Int) (a2_2 : Int) : Option (Int × Int × Int × Bool) := (spec_l01Power.f k a0 (wrap64 (a2_0 + (mx a2_2 (wrap64 (-a2_0)))))).bind fun t151 => ((spec_l01Power.f k a0 (mx a2_2 (wrap64 (-a2_0)))).bind fun t152 => ((spec_l01Power.f k a0 (wrap64 ((mx a2_2 (wrap64 (-a2_0))) - a2_2))).bind fun t153 => (if (wrap64 ((wrap64 (a1_2 * (wrap64 (a2_1 * t153)))) + (wrap64 (a1_3 * t152)))) = 0 then (spec_l04Move.j0 k a0 (mx a2_2 (wrap64 (-a2_0))) true a1_0 a1_1 a1_2 a1_3 a2_0 a2_1 a2_2 (wrap64 (a1_0 * t151)) (wrap64 (a1_2 * t151)) (wrap64 ((wrap64 (a1_0 * (wrap64 (a2_1 * t153)))) + (wrap64 (a1_1 * t152)))) (wrap64 ((wrap64 (a1_2 * (wrap64 (a2_1 * t153)))) + (wrap64 (a1_3 * t152))))) else (if (wrap64 (a1_2 * t151)) = 0 then (spec_l04Move.j0 k a0 (mx a2_2 (wrap64 (-a2_0))) false a1_0 a1_1 a1_2 a1_3 a2_0 a2_1 a2_2 (wrap64 (a1_0 * t151)) (wrap64 (a1_2 * t151)) (wrap64 ((wrap64 (a1_0 * (wrap64 (a2_1 * t153)))) + (wrap64 (a1_1 * t152)))) (wrap64 ((wrap64 (a1_2 * (wrap64 (a2_1 * t153)))) + (wrap64 (a1_3 * t152))))) else ((spec_l01Val.f k a0 (wrap64 ((wrap64 (a1_2 * (wrap64 (a2_1 * t153)))) + (wrap64 (a1_3 * t152))))).bind fun t156 => ((spec_l01Val.f k a0 (wrap64 (a1_2 * t151))).bind fun t157 => (spec_l04Move.j0 k a0 (mx a2_2 (wrap64 (-a2_0))) (decide (t156 > t157)) a1_0 a1_1 a1_2 a1_3 a2_0 a2_1 a2_2 (wrap64 (a1_0 * t151)) (wrap64 (a1_2 * t151)) (wrap64 ((wrap64 (a1_0 * (wrap64 (a2_1 * t153)))) + (wrap64 (a1_1 * t152)))) (wrap64 ((wrap64 (a1_2 * (wrap64 (a2_1 * t153)))) + (wrap64 (a1_3 * t152)))))))))))
def spec_l04Move.T3 : Bool × List (List Nat × List Nat) := (true, [([], []), ([0], [0]), ([], []), ([], []), ([], []), ([4], [4]), ([3, 5], [3, 5]), ([2, 6], [2, 6]), ([1, 7], [1, 7]), ([8, 7, 0, 1, 2, 3, 4, 5, 6, 7, 8], [8])])
def spec_l04Move.B3 : List Nat := [0, 1, 0, 0, 0, 16, 56, 124, 255, 511]
theorem spec_l04Move.tab3 : rtab .any (opsOf Try.f52 3) = spec_l04Move.T3 := by kernel_rfl
theorem spec_l04Move.bits3 : waitsOk spec_l04Move.T3.2 spec_l04Move.B3 = true := by kernel_rfl
def spec_l04Move.T6 : Bool × List (List Nat × List Nat) := (true, [([], []), ([0], [0]), ([1], [1]), ([2], [2]), ([3], [3]), ([4, 3], [3, 4]), ([5, 3], [3, 5]), ([6, 3, 3], [3, 6]), ([7], [7]), ([7], [7]), ([9, 7], [7, 9]), ([8, 10, 7, 7], [7, 8, 10]), ([7], [7]), ([7], [7]), ([13, 7], [7, 13]), ([12, 14, 11, 7], [7, 12, 14]), ([11, 15, 7], [7, 11, 15]), ([7, 16, 3], [3, 7, 16]), ([3, 17], [3, 17])])
def spec_l04Move.B6 : List Nat := [0, 1, 3, 7, 15, 31, 63, 127, 255, 255, 767, 2047, 255, 255, 8447, 32767, 65535, 131071, 262143]
theorem spec_l04Move.tab6 : rtab .any (opsOf Try.f52 6) = spec_l04Move.T6 := by kernel_rfl
theorem spec_l04Move.bits6 : waitsOk spec_l04Move.T6.2 spec_l04Move.B6 = true := by kernel_rfl
def spec_l04Move.T8 : Bool × List (List Nat × List Nat) := (true, [([], []), ([], []), ([1], [1]), ([0, 2, 2], [0, 2]), ([], []), ([4], [4]), ([3, 5], [3, 5]), ([], []), ([7], [7]), ([6, 8], [6, 8]), ([], []), ([], []), ([11], [11]), ([10, 12, 3], [10, 12]), ([13], [13]), ([9, 14], [9, 14]), ([15, 13, 0, 1, 2, 3, 4, 5, 6, 7, 8, 9, 10, 11, 12, 13, 14, 15], [15])])
def spec_l04Move.B8 : List Nat := [0, 0, 2, 7, 0, 16, 63, 0, 128, 511, 0, 0, 2048, 7183, 15375, 32767, 65535]
theorem spec_l04Move.tab8 : rtab .any (opsOf Try.f52 8) = spec_l04Move.T8 := by kernel_rfl
theorem spec_l04Move.bits8 : waitsOk spec_l04Move.T8.2 spec_l04Move.B8 = true := by kernel_rfl
set_option maxHeartbeats 8000000 in
set_option maxRecDepth 100000 in
theorem spec_l04Move.calls (k : Nat) (a0 : Int) (a1_0 : Int) (a1_1 : Int) (a1_2 : Int) (a1_3 : Int) (a2_0 : Int) (a2_1 : Int) (a2_2 : Int) (r1 : Int) (r2 : Int) (r3 : Int) (r4 : Bool) (w : World) (h : spec_l04Move.f k a0 a1_0 a1_1 a1_2 a1_3 a2_0 a2_1 a2_2 = some (r1, r2, r3, r4)) :
  Calls Try.prog 52 #[.int .i64 a0, .agg #[.int .i64 a1_0, .int .i64 a1_1, .int .i64 a1_2, .int .i64 a1_3], .agg #[.int .i64 a2_0, .int .i64 a2_1, .int .i64 a2_2]] w fun e w' => e = .returned (.tuple #[.agg #[.int .i64 r1, .int .i64 r2, .int .i64 r3], .bool r4]) ∧ Below w.heap.size w w' := by
 have hu33 := Try.underlying33
 have hu28 := Try.underlying28
 have hu22 := Try.underlying22
 have HB := Aside0.mk (Below.refl w.heap.size w)
 have H : ((spec_l01Power.f k a0 (wrap64 (a2_0 + (mx a2_2 (wrap64 (-a2_0)))))).bind fun t151 => ((spec_l01Power.f k a0 (mx a2_2 (wrap64 (-a2_0)))).bind fun t152 => ((spec_l01Power.f k a0 (wrap64 ((mx a2_2 (wrap64 (-a2_0))) - a2_2))).bind fun t153 => (if (wrap64 ((wrap64 (a1_2 * (wrap64 (a2_1 * t153)))) + (wrap64 (a1_3 * t152)))) = 0 then (spec_l04Move.j0 k a0 (mx a2_2 (wrap64 (-a2_0))) true a1_0 a1_1 a1_2 a1_3 a2_0 a2_1 a2_2 (wrap64 (a1_0 * t151)) (wrap64 (a1_2 * t151)) (wrap64 ((wrap64 (a1_0 * (wrap64 (a2_1 * t153)))) + (wrap64 (a1_1 * t152)))) (wrap64 ((wrap64 (a1_2 * (wrap64 (a2_1 * t153)))) + (wrap64 (a1_3 * t152))))) else (if (wrap64 (a1_2 * t151)) = 0 then (spec_l04Move.j0 k a0 (mx a2_2 (wrap64 (-a2_0))) false a1_0 a1_1 a1_2 a1_3 a2_0 a2_1 a2_2 (wrap64 (a1_0 * t151)) (wrap64 (a1_2 * t151)) (wrap64 ((wrap64 (a1_0 * (wrap64 (a2_1 * t153)))) + (wrap64 (a1_1 * t152)))) (wrap64 ((wrap64 (a1_2 * (wrap64 (a2_1 * t153)))) + (wrap64 (a1_3 * t152))))) else ((spec_l01Val.f k a0 (wrap64 ((wrap64 (a1_2 * (wrap64 (a2_1 * t153)))) + (wrap64 (a1_3 * t152))))).bind fun t156 => ((spec_l01Val.f k a0 (wrap64 (a1_2 * t151))).bind fun t157 => (spec_l04Move.j0 k a0 (mx a2_2 (wrap64 (-a2_0))) (decide (t156 > t157)) a1_0 a1_1 a1_2 a1_3 a2_0 a2_1 a2_2 (wrap64 (a1_0 * t151)) (wrap64 (a1_2 * t151)) (wrap64 ((wrap64 (a1_0 * (wrap64 (a2_1 * t153)))) + (wrap64 (a1_1 * t152)))) (wrap64 ((wrap64 (a1_2 * (wrap64 (a2_1 * t153)))) + (wrap64 (a1_3 * t152)))))))))))) = some (r1, r2, r3, r4) := h
 clear h
 obtain ⟨ji4, hji4⟩ : ∃ j_ : Int, (mx a2_2 (wrap64 (-a2_0))) = j_ := ⟨_, rfl⟩
 replace H : ((spec_l01Power.f k a0 (wrap64 (a2_0 + (ji4)))).bind fun t151 => ((spec_l01Power.f k a0 (ji4)).bind fun t152 => ((spec_l01Power.f k a0 (wrap64 ((ji4) - a2_2))).bind fun t153 => (if (wrap64 ((wrap64 (a1_2 * (wrap64 (a2_1 * t153)))) + (wrap64 (a1_3 * t152)))) = 0 then (spec_l04Move.j0 k a0 ji4 true a1_0 a1_1 a1_2 a1_3 a2_0 a2_1 a2_2 (wrap64 (a1_0 * t151)) (wrap64 (a1_2 * t151)) (wrap64 ((wrap64 (a1_0 * (wrap64 (a2_1 * t153)))) + (wrap64 (a1_1 * t152)))) (wrap64 ((wrap64 (a1_2 * (wrap64 (a2_1 * t153)))) + (wrap64 (a1_3 * t152))))) else (if (wrap64 (a1_2 * t151)) = 0 then (spec_l04Move.j0 k a0 ji4 false a1_0 a1_1 a1_2 a1_3 a2_0 a2_1 a2_2 (wrap64 (a1_0 * t151)) (wrap64 (a1_2 * t151)) (wrap64 ((wrap64 (a1_0 * (wrap64 (a2_1 * t153)))) + (wrap64 (a1_1 * t152)))) (wrap64 ((wrap64 (a1_2 * (wrap64 (a2_1 * t153)))) + (wrap64 (a1_3 * t152))))) else ((spec_l01Val.f k a0 (wrap64 ((wrap64 (a1_2 * (wrap64 (a2_1 * t153)))) + (wrap64 (a1_3 * t152))))).bind fun t156 => ((spec_l01Val.f k a0 (wrap64 (a1_2 * t151))).bind fun t157 => (spec_l04Move.j0 k a0 ji4 (decide (t156 > t157)) a1_0 a1_1 a1_2 a1_3 a2_0 a2_1 a2_2 (wrap64 (a1_0 * t151)) (wrap64 (a1_2 * t151)) (wrap64 ((wrap64 (a1_0 * (wrap64 (a2_1 * t153)))) + (wrap64 (a1_1 * t152)))) (wrap64 ((wrap64 (a1_2 * (wrap64 (a2_1 * t153)))) + (wrap64 (a1_3 * t152)))))))))))) = some (r1, r2, r3, r4) := by first | (rw [hji4] at H; exact H) | (simp only [hji4] at H ⊢; exact H)
 have hji4_k : (if a2_2 < (IntKind.i64.wrap (-a2_0)) then (IntKind.i64.wrap (-a2_0)) else a2_2) = ji4 := by simp only [i64_w]; exact hji4
 have hji4_ : (if a2_2 < (wrap64 (-a2_0)) then (wrap64 (-a2_0)) else a2_2) = ji4 := hji4
 replace H := Option.bind_eq_some_iff.mp H
 obtain ⟨t151, A50, H⟩ := H
 have A5 := Aside0.mk A50
 clear A50
 replace H := Option.bind_eq_some_iff.mp H
 obtain ⟨t152, A60, H⟩ := H
 have A6 := Aside0.mk A60
 clear A60
 replace H := Option.bind_eq_some_iff.mp H
 obtain ⟨t153, A70, H⟩ := H
 have A7 := Aside0.mk A70
 clear A70
 have HC8 := Aside0.mk H
 clear H
 go_enter Try.func52, Try.ntmps52
 try go_wp2_with (first | ((with_reducible refine gate_dst (N := 4) rfl ?_); refine bx_ 4 #[.int .i64 a1_0, .int .i64 a1_1, .int .i64 a1_2, .int .i64 a1_3] 33 ?_; intro gb148 hg w9 hbox hb; have BK148 := Aside0.mk (hbox); have GW148 := bs_ HB hg; have GE148 := bs_ HB hg; replace HB := bt_ HB hb; clear hb hbox hg) | ((with_reducible refine gate_dst (N := 5) rfl ?_); refine bx_ 5 #[.int .i64 a2_0, .int .i64 a2_1, .int .i64 a2_2] 28 ?_; intro gb149 hg w10 hbox hb; have BK149 := Aside0.mk (hbox); have GW149 := bs_ HB hg; have GE149 := bs_ HB hg; have NB148_149 := bm_ BK148 hg; have NB149_148 := bn_ BK148 hg; replace BK148 := bb_ BK148 hb; replace HB := bt_ HB hb; clear hb hbox hg) | ((with_reducible refine gate_dst (N := 6) rfl ?_); refine bx_ 6 #[.int .i64 0, .int .i64 0, .int .i64 0] 28 ?_; intro gb150 hg w11 hbox hb; have BK150 := Aside0.mk (hbox); have GW150 := bs_ HB hg; have GE150 := bs_ HB hg; have NB148_150 := bm_ BK148 hg; have NB150_148 := bn_ BK148 hg; have NB149_150 := bm_ BK149 hg; have NB150_149 := bn_ BK149 hg; replace BK148 := bb_ BK148 hb; replace BK149 := bb_ BK149 hb; replace HB := bt_ HB hb; clear hb hbox hg; have hnb12 := NB149_148.out; have hnc12 := NB148_149.out; have hnb13 := NB149_150.out; have hnc13 := NB150_149.out; have hcz14_0 : w11.cell? ⟨gb149, 0, none⟩ = some (.int .i64 a2_0) := (blk_cell BK149.out 0).trans rfl; have hcz14_1 : w11.cell? ⟨gb149, 1, none⟩ = some (.int .i64 a2_1) := (blk_cell BK149.out 1).trans rfl; have hcz14_2 : w11.cell? ⟨gb149, 2, none⟩ = some (.int .i64 a2_2) := (blk_cell BK149.out 2).trans rfl; have hfz14_0 := blk_frozen BK149.out 0; have hfz14_1 := blk_frozen BK149.out 1; have hfz14_2 := blk_frozen BK149.out 2) | ((with_reducible refine gate_callee (f := 72) rfl ?_); refine goesL_ (some 26) rfl rfl Try.func72 (by kernel_rfl) rfl #[.int .i64 a0, .int .i64 (wrap64 (a2_0 + (ji4)))] rfl (by (try simp only [List.map_toArray, List.map_cons, List.map_nil]); first | done | (simp only [hji4]; rfl) | rfl | (simp only [List.length_drop, List.length_take]; rfl)) ?_; (with_reducible refine (spec_l01Power.calls k a0 (wrap64 (a2_0 + (ji4))) t151 _ A5.out).mono ?_); rintro e w' ⟨rfl, ⟨nd, rfl⟩⟩; refine ⟨_, rfl, ?_⟩; (try (rw [drewN_self w11]; generalize hq_ : World.drewN w11 _ = w11; have n0_ : Aside0 (w11.heap[gb148]? = some (.cells #[.int .i64 a1_0, .int .i64 a1_1, .int .i64 a1_2, .int .i64 a1_3] 33 (0, 0))) := ⟨by rw [← hq_]; exact (bl_ BK148).out⟩; have n1_ : Aside0 (w11.heap[gb149]? = some (.cells #[.int .i64 a2_0, .int .i64 a2_1, .int .i64 a2_2] 28 (0, 0))) := ⟨by rw [← hq_]; exact (bl_ BK149).out⟩; have n2_ : Aside0 (w11.heap[gb150]? = some (.cells #[.int .i64 0, .int .i64 0, .int .i64 0] 28 (0, 0))) := ⟨by rw [← hq_]; exact (bl_ BK150).out⟩; have n3_ : Aside0 (Below w.heap.size w w11) := ⟨by rw [← hq_]; exact (bw_ HB).out⟩; clear BK148 BK149 BK150 HB hq_; have BK148 := n0_; have BK149 := n1_; have BK150 := n2_; have HB := n3_; clear n0_ n1_ n2_ n3_))) | ((with_reducible refine gate_callee (f := 72) rfl ?_); refine goesL_ (some 29) rfl rfl Try.func72 (by kernel_rfl) rfl #[.int .i64 a0, .int .i64 ji4] rfl (by (try simp only [List.map_toArray, List.map_cons, List.map_nil]); first | done | (simp only [hji4]; rfl) | rfl | (simp only [List.length_drop, List.length_take]; rfl)) ?_; (with_reducible refine (spec_l01Power.calls k a0 ji4 t152 _ A6.out).mono ?_); rintro e w' ⟨rfl, ⟨nd, rfl⟩⟩; refine ⟨_, rfl, ?_⟩; (try (rw [drewN_self w11]; generalize hq_ : World.drewN w11 _ = w11; have n0_ : Aside0 (w11.heap[gb148]? = some (.cells #[.int .i64 a1_0, .int .i64 a1_1, .int .i64 a1_2, .int .i64 a1_3] 33 (0, 0))) := ⟨by rw [← hq_]; exact (bl_ BK148).out⟩; have n1_ : Aside0 (w11.heap[gb149]? = some (.cells #[.int .i64 a2_0, .int .i64 a2_1, .int .i64 a2_2] 28 (0, 0))) := ⟨by rw [← hq_]; exact (bl_ BK149).out⟩; have n2_ : Aside0 (w11.heap[gb150]? = some (.cells #[.int .i64 0, .int .i64 0, .int .i64 0] 28 (0, 0))) := ⟨by rw [← hq_]; exact (bl_ BK150).out⟩; have n3_ : Aside0 (Below w.heap.size w w11) := ⟨by rw [← hq_]; exact (bw_ HB).out⟩; clear BK148 BK149 BK150 HB hq_; have BK148 := n0_; have BK149 := n1_; have BK150 := n2_; have HB := n3_; clear n0_ n1_ n2_ n3_))))
 replace BK148 := Aside0.mk (blk_drew BK148.out)
 replace BK149 := Aside0.mk (blk_drew BK149.out)
 replace BK150 := Aside0.mk (blk_drew BK150.out)
 replace HB := Aside0.mk (below_drew1 HB.out)
 refine start_ (n := 10) (S := fun w' => w'.cell? ⟨gb149, 0, none⟩ = some (.int .i64 a2_0) ∧ w'.cell? ⟨gb149, 1, none⟩ = some (.int .i64 a2_1) ∧ w'.cell? ⟨gb149, 2, none⟩ = some (.int .i64 a2_2)) (ds := []) #[false, false, false, false, false, false, false, false, false, false] (by kernel_rfl) rfl rfl ⟨(blk_cell BK149.out 0).trans rfl, (blk_cell BK149.out 1).trans rfl, (blk_cell BK149.out 2).trans rfl⟩ (fun hHeld => ?_); refine with_tabW spec_l04Move.tab3 spec_l04Move.bits3 (fun HT_ HW_ => ?_)
 generalize w11.drew = w15 at BK148 BK149 BK150 HB hHeld ⊢
 refine pu_ HT_ 0 (some 30) #[true, false, false, false, false, false, false, false, false, false] ?_
 refine pu_ HT_ 2 (some 32) #[true, false, true, false, false, false, false, false, false, false] ?_
 refine pu_ HT_ 3 (some 33) #[true, false, true, true, false, false, false, false, false, false] ?_
 refine pu_ HT_ 4 (some 34) #[true, false, true, true, true, false, false, false, false, false] ?_
 refine ta_ HT_ HW_ 1 (some 31) #[true, true, true, true, true, false, false, false, false, false] hHeld ?_ (hy := by rintro w' ⟨s0, s1, s2⟩; go_simp; with_reducible rfl)
 refine ta_ HT_ HW_ 5 (some 35) #[true, true, true, true, true, true, false, false, false, false] hHeld ?_ (hy := by rintro w' ⟨s0, s1, s2⟩; go_simp; with_reducible rfl)
 refine pu_ HT_ 6 (some 36) #[true, true, true, true, true, true, true, false, false, false] ?_
 refine one_ (i := 7) (N := some 37) #[true, true, true, true, true, true, true, true, false, false] rfl rfl (one_of HT_.out (by kernel_rfl)) (by decide) (fun K hK => ?_)
 refine goes_ Try.func72 (by kernel_rfl) rfl #[.int .i64 a0, .int .i64 (wrap64 ((ji4) - a2_2))] (by rfl) rfl rfl (by (try simp only [List.map_toArray, List.map_cons, List.map_nil]); first | done | (simp only [hji4]; rfl) | rfl | (simp only [List.length_drop, List.length_take]; rfl)) ?_
 with_reducible refine (spec_l01Power.calls k a0 (wrap64 ((ji4) - a2_2)) t153 _ A7.out).mono ?_
 rintro e w' ⟨rfl, ⟨nd, rfl⟩⟩
 refine ⟨_, rfl, ?_⟩
 refine hK.out _ _ ⟨(blk_cell BK149.out 0).trans rfl, (blk_cell BK149.out 1).trans rfl, (blk_cell BK149.out 2).trans rfl⟩ (fun hHeld => ?_)
 clear hK K
 refine norm_ (a' := ?_) ?_ ?_
 rotate_left
 ·show Act.put _ (some 37) _ = _
  simp only [Act.put, lstS, lstZ, lstC, i64_w, i32_w]
  rfl
 refine pu_ HT_ 8 (some 38) #[true, true, true, true, true, true, true, true, true, false] ?_
 refine pu_ HT_ 9 (some 11) #[true, true, true, true, true, true, true, true, true, true] ?_
 refine done_ (done_of HT_.out (by kernel_rfl)) ?_
 have hnb16 := NB148_150.out
 have hnc16 := NB150_148.out
 have hcz17_0 : w15.cell? ⟨gb148, 0, none⟩ = some (.int .i64 a1_0) := (blk_cell BK148.out 0).trans rfl
 have hcz17_1 : w15.cell? ⟨gb148, 1, none⟩ = some (.int .i64 a1_1) := (blk_cell BK148.out 1).trans rfl
 have hcz17_2 : w15.cell? ⟨gb148, 2, none⟩ = some (.int .i64 a1_2) := (blk_cell BK148.out 2).trans rfl
 have hcz17_3 : w15.cell? ⟨gb148, 3, none⟩ = some (.int .i64 a1_3) := (blk_cell BK148.out 3).trans rfl
 have hfz17_0 := blk_frozen BK148.out 0
 have hfz17_1 := blk_frozen BK148.out 1
 have hfz17_2 := blk_frozen BK148.out 2
 have hfz17_3 := blk_frozen BK148.out 3
 go_upto_region 6 with (first | ((with_reducible refine gate_dst (N := 12) rfl ?_); refine bx_ 12 #[.int .i64 0, .int .i64 0] 22 ?_; intro gb154 hg w18 hbox hb; have BK154 := Aside0.mk (hbox); have GW154 := bs_ HB hg; have GE154 := bs_ HB hg; have NB148_154 := bm_ BK148 hg; have NB154_148 := bn_ BK148 hg; have NB149_154 := bm_ BK149 hg; have NB154_149 := bn_ BK149 hg; have NB150_154 := bm_ BK150 hg; have NB154_150 := bn_ BK150 hg; replace BK148 := bb_ BK148 hb; replace BK149 := bb_ BK149 hb; replace BK150 := bb_ BK150 hb; replace HB := bt_ HB hb; clear hb hbox hg; have hnb19 := NB154_148.out; have hnc19 := NB148_154.out; have hnb20 := NB154_149.out; have hnc20 := NB149_154.out; have hnb21 := NB154_150.out; have hnc21 := NB150_154.out; have hcz22_0 : w18.cell? ⟨gb154, 0, none⟩ = some (.int .i64 0) := (blk_cell BK154.out 0).trans rfl; have hcz22_1 : w18.cell? ⟨gb154, 1, none⟩ = some (.int .i64 0) := (blk_cell BK154.out 1).trans rfl; have hfz22_0 := blk_frozen BK154.out 0; have hfz22_1 := blk_frozen BK154.out 1; have hcz23_0 : w18.cell? ⟨gb148, 0, none⟩ = some (.int .i64 a1_0) := (blk_cell BK148.out 0).trans rfl; have hcz23_1 : w18.cell? ⟨gb148, 1, none⟩ = some (.int .i64 a1_1) := (blk_cell BK148.out 1).trans rfl; have hcz23_2 : w18.cell? ⟨gb148, 2, none⟩ = some (.int .i64 a1_2) := (blk_cell BK148.out 2).trans rfl; have hcz23_3 : w18.cell? ⟨gb148, 3, none⟩ = some (.int .i64 a1_3) := (blk_cell BK148.out 3).trans rfl; have hfz23_0 := blk_frozen BK148.out 0; have hfz23_1 := blk_frozen BK148.out 1; have hfz23_2 := blk_frozen BK148.out 2; have hfz23_3 := blk_frozen BK148.out 3) | ((with_reducible refine gate_dst (N := 13) rfl ?_); refine bx_ 13 #[.int .i64 0, .int .i64 0] 22 ?_; intro gb155 hg w24 hbox hb; have BK155 := Aside0.mk (hbox); have GW155 := bs_ HB hg; have GE155 := bs_ HB hg; have NB148_155 := Aside0.mk ((by rw [hg]; exact Nat.ne_of_lt (blk_lt (g := gb148) (o := .cells #[.int .i64 a1_0, .int .i64 a1_1, .int .i64 a1_2, .int .i64 a1_3] 33 (0, 0)) (by (with_reducible repeat first | apply blk_drewN | apply blk_drew | apply blk_alloc); refine blk_far ?_ NB148_154.out _; (with_reducible repeat first | apply blk_drewN | apply blk_drew | apply blk_alloc); refine blk_far ?_ NB148_154.out _; (with_reducible repeat first | apply blk_drewN | apply blk_drew | apply blk_alloc); exact BK148.out)) : gb148 ≠ gb155)); have NB155_148 := Aside0.mk ((by rw [hg]; exact Nat.ne_of_gt (blk_lt (g := gb148) (o := .cells #[.int .i64 a1_0, .int .i64 a1_1, .int .i64 a1_2, .int .i64 a1_3] 33 (0, 0)) (by (with_reducible repeat first | apply blk_drewN | apply blk_drew | apply blk_alloc); refine blk_far ?_ NB148_154.out _; (with_reducible repeat first | apply blk_drewN | apply blk_drew | apply blk_alloc); refine blk_far ?_ NB148_154.out _; (with_reducible repeat first | apply blk_drewN | apply blk_drew | apply blk_alloc); exact BK148.out)) : gb155 ≠ gb148)); have NB149_155 := Aside0.mk ((by rw [hg]; exact Nat.ne_of_lt (blk_lt (g := gb149) (o := .cells #[.int .i64 a2_0, .int .i64 a2_1, .int .i64 a2_2] 28 (0, 0)) (by (with_reducible repeat first | apply blk_drewN | apply blk_drew | apply blk_alloc); refine blk_far ?_ NB149_154.out _; (with_reducible repeat first | apply blk_drewN | apply blk_drew | apply blk_alloc); refine blk_far ?_ NB149_154.out _; (with_reducible repeat first | apply blk_drewN | apply blk_drew | apply blk_alloc); exact BK149.out)) : gb149 ≠ gb155)); have NB155_149 := Aside0.mk ((by rw [hg]; exact Nat.ne_of_gt (blk_lt (g := gb149) (o := .cells #[.int .i64 a2_0, .int .i64 a2_1, .int .i64 a2_2] 28 (0, 0)) (by (with_reducible repeat first | apply blk_drewN | apply blk_drew | apply blk_alloc); refine blk_far ?_ NB149_154.out _; (with_reducible repeat first | apply blk_drewN | apply blk_drew | apply blk_alloc); refine blk_far ?_ NB149_154.out _; (with_reducible repeat first | apply blk_drewN | apply blk_drew | apply blk_alloc); exact BK149.out)) : gb155 ≠ gb149)); have NB150_155 := Aside0.mk ((by rw [hg]; exact Nat.ne_of_lt (blk_lt (g := gb150) (o := .cells #[.int .i64 0, .int .i64 0, .int .i64 0] 28 (0, 0)) (by (with_reducible repeat first | apply blk_drewN | apply blk_drew | apply blk_alloc); refine blk_far ?_ NB150_154.out _; (with_reducible repeat first | apply blk_drewN | apply blk_drew | apply blk_alloc); refine blk_far ?_ NB150_154.out _; (with_reducible repeat first | apply blk_drewN | apply blk_drew | apply blk_alloc); exact BK150.out)) : gb150 ≠ gb155)); have NB155_150 := Aside0.mk ((by rw [hg]; exact Nat.ne_of_gt (blk_lt (g := gb150) (o := .cells #[.int .i64 0, .int .i64 0, .int .i64 0] 28 (0, 0)) (by (with_reducible repeat first | apply blk_drewN | apply blk_drew | apply blk_alloc); refine blk_far ?_ NB150_154.out _; (with_reducible repeat first | apply blk_drewN | apply blk_drew | apply blk_alloc); refine blk_far ?_ NB150_154.out _; (with_reducible repeat first | apply blk_drewN | apply blk_drew | apply blk_alloc); exact BK150.out)) : gb155 ≠ gb150)); have NB154_155 := Aside0.mk ((by rw [hg]; exact Nat.ne_of_lt (blk_lt (g := gb154) (o := .cells #[.int .i64 (wrap64 (a1_0 * t151)), .int .i64 (wrap64 (a1_2 * t151))] 22 (0, 0)) (by (with_reducible repeat first | apply blk_drewN | apply blk_drew | apply blk_alloc); refine blk_put (cs := #[.int .i64 (wrap64 (a1_0 * t151)), .int .i64 0]) ?_ 1 _ rfl; (with_reducible repeat first | apply blk_drewN | apply blk_drew | apply blk_alloc); refine blk_put (cs := #[.int .i64 0, .int .i64 0]) ?_ 0 _ rfl; (with_reducible repeat first | apply blk_drewN | apply blk_drew | apply blk_alloc); exact BK154.out)) : gb154 ≠ gb155)); have NB155_154 := Aside0.mk ((by rw [hg]; exact Nat.ne_of_gt (blk_lt (g := gb154) (o := .cells #[.int .i64 (wrap64 (a1_0 * t151)), .int .i64 (wrap64 (a1_2 * t151))] 22 (0, 0)) (by (with_reducible repeat first | apply blk_drewN | apply blk_drew | apply blk_alloc); refine blk_put (cs := #[.int .i64 (wrap64 (a1_0 * t151)), .int .i64 0]) ?_ 1 _ rfl; (with_reducible repeat first | apply blk_drewN | apply blk_drew | apply blk_alloc); refine blk_put (cs := #[.int .i64 0, .int .i64 0]) ?_ 0 _ rfl; (with_reducible repeat first | apply blk_drewN | apply blk_drew | apply blk_alloc); exact BK154.out)) : gb155 ≠ gb154)); replace BK148 := Aside0.mk (blk_below (g := gb148) (o := .cells #[.int .i64 a1_0, .int .i64 a1_1, .int .i64 a1_2, .int .i64 a1_3] 33 (0, 0)) (by (with_reducible repeat first | apply blk_drewN | apply blk_drew | apply blk_alloc); refine blk_far ?_ NB148_154.out _; (with_reducible repeat first | apply blk_drewN | apply blk_drew | apply blk_alloc); refine blk_far ?_ NB148_154.out _; (with_reducible repeat first | apply blk_drewN | apply blk_drew | apply blk_alloc); exact BK148.out) hb); replace BK149 := Aside0.mk (blk_below (g := gb149) (o := .cells #[.int .i64 a2_0, .int .i64 a2_1, .int .i64 a2_2] 28 (0, 0)) (by (with_reducible repeat first | apply blk_drewN | apply blk_drew | apply blk_alloc); refine blk_far ?_ NB149_154.out _; (with_reducible repeat first | apply blk_drewN | apply blk_drew | apply blk_alloc); refine blk_far ?_ NB149_154.out _; (with_reducible repeat first | apply blk_drewN | apply blk_drew | apply blk_alloc); exact BK149.out) hb); replace BK150 := Aside0.mk (blk_below (g := gb150) (o := .cells #[.int .i64 0, .int .i64 0, .int .i64 0] 28 (0, 0)) (by (with_reducible repeat first | apply blk_drewN | apply blk_drew | apply blk_alloc); refine blk_far ?_ NB150_154.out _; (with_reducible repeat first | apply blk_drewN | apply blk_drew | apply blk_alloc); refine blk_far ?_ NB150_154.out _; (with_reducible repeat first | apply blk_drewN | apply blk_drew | apply blk_alloc); exact BK150.out) hb); replace BK154 := Aside0.mk (blk_below (g := gb154) (o := .cells #[.int .i64 (wrap64 (a1_0 * t151)), .int .i64 (wrap64 (a1_2 * t151))] 22 (0, 0)) (by (with_reducible repeat first | apply blk_drewN | apply blk_drew | apply blk_alloc); refine blk_put (cs := #[.int .i64 (wrap64 (a1_0 * t151)), .int .i64 0]) ?_ 1 _ rfl; (with_reducible repeat first | apply blk_drewN | apply blk_drew | apply blk_alloc); refine blk_put (cs := #[.int .i64 0, .int .i64 0]) ?_ 0 _ rfl; (with_reducible repeat first | apply blk_drewN | apply blk_drew | apply blk_alloc); exact BK154.out) hb); replace HB := bt_ HB hb; clear hb hbox hg; have hnb25 := NB155_148.out; have hnc25 := NB148_155.out; have hnb26 := NB155_149.out; have hnc26 := NB149_155.out; have hnb27 := NB155_150.out; have hnc27 := NB150_155.out; have hnb28 := NB155_154.out; have hnc28 := NB154_155.out; have hcz29_0 : w24.cell? ⟨gb155, 0, none⟩ = some (.int .i64 0) := (blk_cell BK155.out 0).trans rfl; have hcz29_1 : w24.cell? ⟨gb155, 1, none⟩ = some (.int .i64 0) := (blk_cell BK155.out 1).trans rfl; have hfz29_0 := blk_frozen BK155.out 0; have hfz29_1 := blk_frozen BK155.out 1))
 (try simp only [Act.put, lstS, lstZ, lstC])
 go_cut [91] (fun v91 wc => ∃ (kq : Nat) (x91_7 : Bool), v91 = .bool x91_7 ∧ Aside0 (spec_l04Move.j0 kq a0 ji4 x91_7 a1_0 a1_1 a1_2 a1_3 a2_0 a2_1 a2_2 (wrap64 (a1_0 * t151)) (wrap64 (a1_2 * t151)) (wrap64 ((wrap64 (a1_0 * (wrap64 (a2_1 * t153)))) + (wrap64 (a1_1 * t152)))) (wrap64 ((wrap64 (a1_2 * (wrap64 (a2_1 * t153)))) + (wrap64 (a1_3 * t152)))) = some (r1, r2, r3, r4)) ∧ Aside0 (kq ≤ k) ∧ Aside0 (wc.heap[gb148]? = some (.cells #[.int .i64 a1_0, .int .i64 a1_1, .int .i64 a1_2, .int .i64 a1_3] 33 (0, 0))) ∧ Aside0 (wc.heap[gb149]? = some (.cells #[.int .i64 a2_0, .int .i64 a2_1, .int .i64 a2_2] 28 (0, 0))) ∧ Aside0 (wc.heap[gb150]? = some (.cells #[.int .i64 0, .int .i64 0, .int .i64 0] 28 (0, 0))) ∧ Aside0 (wc.heap[gb154]? = some (.cells #[.int .i64 (wrap64 (a1_0 * t151)), .int .i64 (wrap64 (a1_2 * t151))] 22 (0, 0))) ∧ Aside0 (wc.heap[gb155]? = some (.cells #[.int .i64 (wrap64 ((wrap64 (a1_0 * (wrap64 (a2_1 * t153)))) + (wrap64 (a1_1 * t152)))), .int .i64 (wrap64 ((wrap64 (a1_2 * (wrap64 (a2_1 * t153)))) + (wrap64 (a1_3 * t152))))] 22 (0, 0))) ∧ Aside0 (Below w.heap.size w wc))
 case first =>
  have H := HC8.out
  clear HC8
  by_cases c30 : (wrap64 ((wrap64 (a1_2 * (wrap64 (a2_1 * t153)))) + (wrap64 (a1_3 * t152)))) = 0
  ·rw [if_pos c30] at H
   have c30b0 : ((wrap64 ((wrap64 (a1_2 * (wrap64 (a2_1 * t153)))) + (wrap64 (a1_3 * t152)))) == 0) = true := beq_iff_eq.mpr c30
   have c30b1 : ((wrap64 ((wrap64 (a1_2 * (wrap64 (a2_1 * t153)))) + (wrap64 (a1_3 * t152)))) != 0) = false := bne_eq_false_iff_eq.mpr c30
   clear c30
   (first | rw [c30b0] | (simp only [i64_w, i32_w]; rw [c30b0]) | skip)
   have H' := Aside0.mk H
   clear H
   try go_wp2
   have n0_ : Aside0 (((w24.setCell ⟨gb155, 0, none⟩ (.int .i64 (wrap64 ((wrap64 (a1_0 * (wrap64 (a2_1 * t153)))) + (wrap64 (a1_1 * t152)))))).setCell ⟨gb155, 1, none⟩ (.int .i64 (wrap64 ((wrap64 (a1_2 * (wrap64 (a2_1 * t153)))) + (wrap64 (a1_3 * t152)))))).heap[gb148]? = some (.cells #[.int .i64 a1_0, .int .i64 a1_1, .int .i64 a1_2, .int .i64 a1_3] 33 (0, 0))) := ⟨by (with_reducible repeat first | apply blk_drewN | apply blk_drew | apply blk_alloc); refine blk_far ?_ NB148_155.out _; (with_reducible repeat first | apply blk_drewN | apply blk_drew | apply blk_alloc); refine blk_far ?_ NB148_155.out _; (with_reducible repeat first | apply blk_drewN | apply blk_drew | apply blk_alloc); exact BK148.out⟩
   have n1_ : Aside0 (((w24.setCell ⟨gb155, 0, none⟩ (.int .i64 (wrap64 ((wrap64 (a1_0 * (wrap64 (a2_1 * t153)))) + (wrap64 (a1_1 * t152)))))).setCell ⟨gb155, 1, none⟩ (.int .i64 (wrap64 ((wrap64 (a1_2 * (wrap64 (a2_1 * t153)))) + (wrap64 (a1_3 * t152)))))).heap[gb149]? = some (.cells #[.int .i64 a2_0, .int .i64 a2_1, .int .i64 a2_2] 28 (0, 0))) := ⟨by (with_reducible repeat first | apply blk_drewN | apply blk_drew | apply blk_alloc); refine blk_far ?_ NB149_155.out _; (with_reducible repeat first | apply blk_drewN | apply blk_drew | apply blk_alloc); refine blk_far ?_ NB149_155.out _; (with_reducible repeat first | apply blk_drewN | apply blk_drew | apply blk_alloc); exact BK149.out⟩
   have n2_ : Aside0 (((w24.setCell ⟨gb155, 0, none⟩ (.int .i64 (wrap64 ((wrap64 (a1_0 * (wrap64 (a2_1 * t153)))) + (wrap64 (a1_1 * t152)))))).setCell ⟨gb155, 1, none⟩ (.int .i64 (wrap64 ((wrap64 (a1_2 * (wrap64 (a2_1 * t153)))) + (wrap64 (a1_3 * t152)))))).heap[gb150]? = some (.cells #[.int .i64 0, .int .i64 0, .int .i64 0] 28 (0, 0))) := ⟨by (with_reducible repeat first | apply blk_drewN | apply blk_drew | apply blk_alloc); refine blk_far ?_ NB150_155.out _; (with_reducible repeat first | apply blk_drewN | apply blk_drew | apply blk_alloc); refine blk_far ?_ NB150_155.out _; (with_reducible repeat first | apply blk_drewN | apply blk_drew | apply blk_alloc); exact BK150.out⟩
   have n3_ : Aside0 (((w24.setCell ⟨gb155, 0, none⟩ (.int .i64 (wrap64 ((wrap64 (a1_0 * (wrap64 (a2_1 * t153)))) + (wrap64 (a1_1 * t152)))))).setCell ⟨gb155, 1, none⟩ (.int .i64 (wrap64 ((wrap64 (a1_2 * (wrap64 (a2_1 * t153)))) + (wrap64 (a1_3 * t152)))))).heap[gb154]? = some (.cells #[.int .i64 (wrap64 (a1_0 * t151)), .int .i64 (wrap64 (a1_2 * t151))] 22 (0, 0))) := ⟨by (with_reducible repeat first | apply blk_drewN | apply blk_drew | apply blk_alloc); refine blk_far ?_ NB154_155.out _; (with_reducible repeat first | apply blk_drewN | apply blk_drew | apply blk_alloc); refine blk_far ?_ NB154_155.out _; (with_reducible repeat first | apply blk_drewN | apply blk_drew | apply blk_alloc); exact BK154.out⟩
   have n4_ : Aside0 (((w24.setCell ⟨gb155, 0, none⟩ (.int .i64 (wrap64 ((wrap64 (a1_0 * (wrap64 (a2_1 * t153)))) + (wrap64 (a1_1 * t152)))))).setCell ⟨gb155, 1, none⟩ (.int .i64 (wrap64 ((wrap64 (a1_2 * (wrap64 (a2_1 * t153)))) + (wrap64 (a1_3 * t152)))))).heap[gb155]? = some (.cells #[.int .i64 (wrap64 ((wrap64 (a1_0 * (wrap64 (a2_1 * t153)))) + (wrap64 (a1_1 * t152)))), .int .i64 (wrap64 ((wrap64 (a1_2 * (wrap64 (a2_1 * t153)))) + (wrap64 (a1_3 * t152))))] 22 (0, 0))) := ⟨by (with_reducible repeat first | apply blk_drewN | apply blk_drew | apply blk_alloc); refine blk_put (cs := #[.int .i64 (wrap64 ((wrap64 (a1_0 * (wrap64 (a2_1 * t153)))) + (wrap64 (a1_1 * t152)))), .int .i64 0]) ?_ 1 _ rfl; (with_reducible repeat first | apply blk_drewN | apply blk_drew | apply blk_alloc); refine blk_put (cs := #[.int .i64 0, .int .i64 0]) ?_ 0 _ rfl; (with_reducible repeat first | apply blk_drewN | apply blk_drew | apply blk_alloc); exact BK155.out⟩
   have n5_ : Aside0 (Below w.heap.size w ((w24.setCell ⟨gb155, 0, none⟩ (.int .i64 (wrap64 ((wrap64 (a1_0 * (wrap64 (a2_1 * t153)))) + (wrap64 (a1_1 * t152)))))).setCell ⟨gb155, 1, none⟩ (.int .i64 (wrap64 ((wrap64 (a1_2 * (wrap64 (a2_1 * t153)))) + (wrap64 (a1_3 * t152))))))) := bw_ HB
   (try clear BK148)
   (try clear BK149)
   (try clear BK150)
   (try clear BK154)
   (try clear BK155)
   (try clear HB)
   generalize ((w24.setCell ⟨gb155, 0, none⟩ (.int .i64 (wrap64 ((wrap64 (a1_0 * (wrap64 (a2_1 * t153)))) + (wrap64 (a1_1 * t152)))))).setCell ⟨gb155, 1, none⟩ (.int .i64 (wrap64 ((wrap64 (a1_2 * (wrap64 (a2_1 * t153)))) + (wrap64 (a1_3 * t152)))))) = w31 at n0_ n1_ n2_ n3_ n4_ n5_ ⊢
   have BK148 := n0_
   have BK149 := n1_
   have BK150 := n2_
   have BK154 := n3_
   have BK155 := n4_
   have HB := n5_
   clear n0_ n1_ n2_ n3_ n4_ n5_
   (try (rw [drewN_self w31]; generalize hq_ : World.drewN w31 _ = w31; have n0_ : Aside0 (w31.heap[gb148]? = some (.cells #[.int .i64 a1_0, .int .i64 a1_1, .int .i64 a1_2, .int .i64 a1_3] 33 (0, 0))) := ⟨by rw [← hq_]; exact (bl_ BK148).out⟩; have n1_ : Aside0 (w31.heap[gb149]? = some (.cells #[.int .i64 a2_0, .int .i64 a2_1, .int .i64 a2_2] 28 (0, 0))) := ⟨by rw [← hq_]; exact (bl_ BK149).out⟩; have n2_ : Aside0 (w31.heap[gb150]? = some (.cells #[.int .i64 0, .int .i64 0, .int .i64 0] 28 (0, 0))) := ⟨by rw [← hq_]; exact (bl_ BK150).out⟩; have n3_ : Aside0 (w31.heap[gb154]? = some (.cells #[.int .i64 (wrap64 (a1_0 * t151)), .int .i64 (wrap64 (a1_2 * t151))] 22 (0, 0))) := ⟨by rw [← hq_]; exact (bl_ BK154).out⟩; have n4_ : Aside0 (w31.heap[gb155]? = some (.cells #[.int .i64 (wrap64 ((wrap64 (a1_0 * (wrap64 (a2_1 * t153)))) + (wrap64 (a1_1 * t152)))), .int .i64 (wrap64 ((wrap64 (a1_2 * (wrap64 (a2_1 * t153)))) + (wrap64 (a1_3 * t152))))] 22 (0, 0))) := ⟨by rw [← hq_]; exact (bl_ BK155).out⟩; have n5_ : Aside0 (Below w.heap.size w w31) := ⟨by rw [← hq_]; exact (bw_ HB).out⟩; clear BK148 BK149 BK150 BK154 BK155 HB hq_; have BK148 := n0_; have BK149 := n1_; have BK150 := n2_; have BK154 := n3_; have BK155 := n4_; have HB := n5_; clear n0_ n1_ n2_ n3_ n4_ n5_))
   replace BK148 := Aside0.mk (blk_drew BK148.out)
   replace BK149 := Aside0.mk (blk_drew BK149.out)
   replace BK150 := Aside0.mk (blk_drew BK150.out)
   replace BK154 := Aside0.mk (blk_drew BK154.out)
   replace BK155 := Aside0.mk (blk_drew BK155.out)
   replace HB := Aside0.mk (below_drew1 HB.out)
   refine start_ (n := 19) (S := fun w' => w'.cell? ⟨gb155, 0, none⟩ = some (.int .i64 (wrap64 ((wrap64 (a1_0 * (wrap64 (a2_1 * t153)))) + (wrap64 (a1_1 * t152))))) ∧ w'.cell? ⟨gb155, 1, none⟩ = some (.int .i64 (wrap64 ((wrap64 (a1_2 * (wrap64 (a2_1 * t153)))) + (wrap64 (a1_3 * t152)))))) (ds := []) #[false, false, false, false, false, false, false, false, false, false, false, false, false, false, false, false, false, false, false] (by kernel_rfl) rfl rfl ⟨(blk_cell BK155.out 0).trans rfl, (blk_cell BK155.out 1).trans rfl⟩ (fun hHeld => ?_); refine with_tabW spec_l04Move.tab6 spec_l04Move.bits6 (fun HT_ HW_ => ?_)
   generalize w31.drew = w32 at BK148 BK149 BK150 BK154 BK155 HB hHeld ⊢
   refine pu_ HT_ 0 (some 73) #[true, false, false, false, false, false, false, false, false, false, false, false, false, false, false, false, false, false, false] ?_
   refine ta_ HT_ HW_ 1 (some 74) #[true, true, false, false, false, false, false, false, false, false, false, false, false, false, false, false, false, false, false] hHeld ?_ (hy := by rintro w' ⟨s0, s1⟩; go_simp; with_reducible rfl)
   refine pu_ HT_ 2 (some 75) #[true, true, true, false, false, false, false, false, false, false, false, false, false, false, false, false, false, false, false] ?_
   refine pu_ HT_ 3 (some 76) #[true, true, true, true, false, false, false, false, false, false, false, false, false, false, false, false, false, false, false] ?_
   refine pv_ HT_ 4 (some 77) #[true, true, true, true, true, false, false, false, false, false, false, false, false, false, false, false, false, false, false] ?_
   refine pv_ HT_ 5 (some 78) #[true, true, true, true, true, true, false, false, false, false, false, false, false, false, false, false, false, false, false] ?_
   refine pv_ HT_ 6 (some 79) #[true, true, true, true, true, true, true, false, false, false, false, false, false, false, false, false, false, false, false] ?_
   refine pv_ HT_ 7 (some 80) #[true, true, true, true, true, true, true, true, false, false, false, false, false, false, false, false, false, false, false] ?_
   refine pv_ HT_ 8 (some 81) #[true, true, true, true, true, true, true, true, true, false, false, false, false, false, false, false, false, false, false] ?_
   refine pv_ HT_ 9 (some 82) #[true, true, true, true, true, true, true, true, true, true, false, false, false, false, false, false, false, false, false] ?_
   refine pv_ HT_ 10 (some 83) #[true, true, true, true, true, true, true, true, true, true, true, false, false, false, false, false, false, false, false] ?_
   refine pv_ HT_ 11 (some 84) #[true, true, true, true, true, true, true, true, true, true, true, true, false, false, false, false, false, false, false] ?_
   refine pv_ HT_ 12 (some 85) #[true, true, true, true, true, true, true, true, true, true, true, true, true, false, false, false, false, false, false] ?_
   refine pv_ HT_ 13 (some 86) #[true, true, true, true, true, true, true, true, true, true, true, true, true, true, false, false, false, false, false] ?_
   refine pv_ HT_ 14 (some 87) #[true, true, true, true, true, true, true, true, true, true, true, true, true, true, true, false, false, false, false] ?_
   refine pv_ HT_ 15 (some 88) #[true, true, true, true, true, true, true, true, true, true, true, true, true, true, true, true, false, false, false] ?_
   refine pv_ HT_ 16 (some 89) #[true, true, true, true, true, true, true, true, true, true, true, true, true, true, true, true, true, false, false] ?_
   refine pv_ HT_ 17 (some 90) #[true, true, true, true, true, true, true, true, true, true, true, true, true, true, true, true, true, true, false] ?_
   refine pu_ HT_ 18 (some 91) #[true, true, true, true, true, true, true, true, true, true, true, true, true, true, true, true, true, true, true] ?_
   refine done_ (done_of HT_.out (by kernel_rfl)) ?_
   try go_wp2
   go_meet
   case rel => exact ⟨_, (true), (by first | rfl | (simp; done) | (simp [*]; done) | (simp [wrap64]; done)), H', ⟨by first | omega | exact Nat.le_refl _⟩, bl_ BK148, bl_ BK149, bl_ BK150, bl_ BK154, bl_ BK155, bw_ HB⟩
  ·rw [if_neg c30] at H
   have c30b0 : ((wrap64 ((wrap64 (a1_2 * (wrap64 (a2_1 * t153)))) + (wrap64 (a1_3 * t152)))) == 0) = false := beq_eq_false_iff_ne.mpr c30
   have c30b1 : ((wrap64 ((wrap64 (a1_2 * (wrap64 (a2_1 * t153)))) + (wrap64 (a1_3 * t152)))) != 0) = true := bne_iff_ne.mpr c30
   (first | rw [c30b0] | (simp only [i64_w, i32_w]; rw [c30b0]) | skip)
   by_cases c33 : (wrap64 (a1_2 * t151)) = 0
   ·rw [if_pos c33] at H
    have c33b0 : ((wrap64 (a1_2 * t151)) == 0) = true := beq_iff_eq.mpr c33
    have c33b1 : ((wrap64 (a1_2 * t151)) != 0) = false := bne_eq_false_iff_eq.mpr c33
    clear c33
    have H' := Aside0.mk H
    clear H
    try go_wp2
    have n0_ : Aside0 (((w24.setCell ⟨gb155, 0, none⟩ (.int .i64 (wrap64 ((wrap64 (a1_0 * (wrap64 (a2_1 * t153)))) + (wrap64 (a1_1 * t152)))))).setCell ⟨gb155, 1, none⟩ (.int .i64 (wrap64 ((wrap64 (a1_2 * (wrap64 (a2_1 * t153)))) + (wrap64 (a1_3 * t152)))))).heap[gb148]? = some (.cells #[.int .i64 a1_0, .int .i64 a1_1, .int .i64 a1_2, .int .i64 a1_3] 33 (0, 0))) := ⟨by (with_reducible repeat first | apply blk_drewN | apply blk_drew | apply blk_alloc); refine blk_far ?_ NB148_155.out _; (with_reducible repeat first | apply blk_drewN | apply blk_drew | apply blk_alloc); refine blk_far ?_ NB148_155.out _; (with_reducible repeat first | apply blk_drewN | apply blk_drew | apply blk_alloc); exact BK148.out⟩
    have n1_ : Aside0 (((w24.setCell ⟨gb155, 0, none⟩ (.int .i64 (wrap64 ((wrap64 (a1_0 * (wrap64 (a2_1 * t153)))) + (wrap64 (a1_1 * t152)))))).setCell ⟨gb155, 1, none⟩ (.int .i64 (wrap64 ((wrap64 (a1_2 * (wrap64 (a2_1 * t153)))) + (wrap64 (a1_3 * t152)))))).heap[gb149]? = some (.cells #[.int .i64 a2_0, .int .i64 a2_1, .int .i64 a2_2] 28 (0, 0))) := ⟨by (with_reducible repeat first | apply blk_drewN | apply blk_drew | apply blk_alloc); refine blk_far ?_ NB149_155.out _; (with_reducible repeat first | apply blk_drewN | apply blk_drew | apply blk_alloc); refine blk_far ?_ NB149_155.out _; (with_reducible repeat first | apply blk_drewN | apply blk_drew | apply blk_alloc); exact BK149.out⟩
    have n2_ : Aside0 (((w24.setCell ⟨gb155, 0, none⟩ (.int .i64 (wrap64 ((wrap64 (a1_0 * (wrap64 (a2_1 * t153)))) + (wrap64 (a1_1 * t152)))))).setCell ⟨gb155, 1, none⟩ (.int .i64 (wrap64 ((wrap64 (a1_2 * (wrap64 (a2_1 * t153)))) + (wrap64 (a1_3 * t152)))))).heap[gb150]? = some (.cells #[.int .i64 0, .int .i64 0, .int .i64 0] 28 (0, 0))) := ⟨by (with_reducible repeat first | apply blk_drewN | apply blk_drew | apply blk_alloc); refine blk_far ?_ NB150_155.out _; (with_reducible repeat first | apply blk_drewN | apply blk_drew | apply blk_alloc); refine blk_far ?_ NB150_155.out _; (with_reducible repeat first | apply blk_drewN | apply blk_drew | apply blk_alloc); exact BK150.out⟩
    have n3_ : Aside0 (((w24.setCell ⟨gb155, 0, none⟩ (.int .i64 (wrap64 ((wrap64 (a1_0 * (wrap64 (a2_1 * t153)))) + (wrap64 (a1_1 * t152)))))).setCell ⟨gb155, 1, none⟩ (.int .i64 (wrap64 ((wrap64 (a1_2 * (wrap64 (a2_1 * t153)))) + (wrap64 (a1_3 * t152)))))).heap[gb154]? = some (.cells #[.int .i64 (wrap64 (a1_0 * t151)), .int .i64 (wrap64 (a1_2 * t151))] 22 (0, 0))) := ⟨by (with_reducible repeat first | apply blk_drewN | apply blk_drew | apply blk_alloc); refine blk_far ?_ NB154_155.out _; (with_reducible repeat first | apply blk_drewN | apply blk_drew | apply blk_alloc); refine blk_far ?_ NB154_155.out _; (with_reducible repeat first | apply blk_drewN | apply blk_drew | apply blk_alloc); exact BK154.out⟩
    have n4_ : Aside0 (((w24.setCell ⟨gb155, 0, none⟩ (.int .i64 (wrap64 ((wrap64 (a1_0 * (wrap64 (a2_1 * t153)))) + (wrap64 (a1_1 * t152)))))).setCell ⟨gb155, 1, none⟩ (.int .i64 (wrap64 ((wrap64 (a1_2 * (wrap64 (a2_1 * t153)))) + (wrap64 (a1_3 * t152)))))).heap[gb155]? = some (.cells #[.int .i64 (wrap64 ((wrap64 (a1_0 * (wrap64 (a2_1 * t153)))) + (wrap64 (a1_1 * t152)))), .int .i64 (wrap64 ((wrap64 (a1_2 * (wrap64 (a2_1 * t153)))) + (wrap64 (a1_3 * t152))))] 22 (0, 0))) := ⟨by (with_reducible repeat first | apply blk_drewN | apply blk_drew | apply blk_alloc); refine blk_put (cs := #[.int .i64 (wrap64 ((wrap64 (a1_0 * (wrap64 (a2_1 * t153)))) + (wrap64 (a1_1 * t152)))), .int .i64 0]) ?_ 1 _ rfl; (with_reducible repeat first | apply blk_drewN | apply blk_drew | apply blk_alloc); refine blk_put (cs := #[.int .i64 0, .int .i64 0]) ?_ 0 _ rfl; (with_reducible repeat first | apply blk_drewN | apply blk_drew | apply blk_alloc); exact BK155.out⟩
    have n5_ : Aside0 (Below w.heap.size w ((w24.setCell ⟨gb155, 0, none⟩ (.int .i64 (wrap64 ((wrap64 (a1_0 * (wrap64 (a2_1 * t153)))) + (wrap64 (a1_1 * t152)))))).setCell ⟨gb155, 1, none⟩ (.int .i64 (wrap64 ((wrap64 (a1_2 * (wrap64 (a2_1 * t153)))) + (wrap64 (a1_3 * t152))))))) := bw_ HB
    (try clear BK148)
    (try clear BK149)
    (try clear BK150)
    (try clear BK154)
    (try clear BK155)
    (try clear HB)
    generalize ((w24.setCell ⟨gb155, 0, none⟩ (.int .i64 (wrap64 ((wrap64 (a1_0 * (wrap64 (a2_1 * t153)))) + (wrap64 (a1_1 * t152)))))).setCell ⟨gb155, 1, none⟩ (.int .i64 (wrap64 ((wrap64 (a1_2 * (wrap64 (a2_1 * t153)))) + (wrap64 (a1_3 * t152)))))) = w34 at n0_ n1_ n2_ n3_ n4_ n5_ ⊢
    have BK148 := n0_
    have BK149 := n1_
    have BK150 := n2_
    have BK154 := n3_
    have BK155 := n4_
    have HB := n5_
    clear n0_ n1_ n2_ n3_ n4_ n5_
    (try (rw [drewN_self w34]; generalize hq_ : World.drewN w34 _ = w34; have n0_ : Aside0 (w34.heap[gb148]? = some (.cells #[.int .i64 a1_0, .int .i64 a1_1, .int .i64 a1_2, .int .i64 a1_3] 33 (0, 0))) := ⟨by rw [← hq_]; exact (bl_ BK148).out⟩; have n1_ : Aside0 (w34.heap[gb149]? = some (.cells #[.int .i64 a2_0, .int .i64 a2_1, .int .i64 a2_2] 28 (0, 0))) := ⟨by rw [← hq_]; exact (bl_ BK149).out⟩; have n2_ : Aside0 (w34.heap[gb150]? = some (.cells #[.int .i64 0, .int .i64 0, .int .i64 0] 28 (0, 0))) := ⟨by rw [← hq_]; exact (bl_ BK150).out⟩; have n3_ : Aside0 (w34.heap[gb154]? = some (.cells #[.int .i64 (wrap64 (a1_0 * t151)), .int .i64 (wrap64 (a1_2 * t151))] 22 (0, 0))) := ⟨by rw [← hq_]; exact (bl_ BK154).out⟩; have n4_ : Aside0 (w34.heap[gb155]? = some (.cells #[.int .i64 (wrap64 ((wrap64 (a1_0 * (wrap64 (a2_1 * t153)))) + (wrap64 (a1_1 * t152)))), .int .i64 (wrap64 ((wrap64 (a1_2 * (wrap64 (a2_1 * t153)))) + (wrap64 (a1_3 * t152))))] 22 (0, 0))) := ⟨by rw [← hq_]; exact (bl_ BK155).out⟩; have n5_ : Aside0 (Below w.heap.size w w34) := ⟨by rw [← hq_]; exact (bw_ HB).out⟩; clear BK148 BK149 BK150 BK154 BK155 HB hq_; have BK148 := n0_; have BK149 := n1_; have BK150 := n2_; have BK154 := n3_; have BK155 := n4_; have HB := n5_; clear n0_ n1_ n2_ n3_ n4_ n5_))
    replace BK148 := Aside0.mk (blk_drew BK148.out)
    replace BK149 := Aside0.mk (blk_drew BK149.out)
    replace BK150 := Aside0.mk (blk_drew BK150.out)
    replace BK154 := Aside0.mk (blk_drew BK154.out)
    replace BK155 := Aside0.mk (blk_drew BK155.out)
    replace HB := Aside0.mk (below_drew1 HB.out)
    refine start_ (n := 19) (S := fun w' => w'.cell? ⟨gb155, 0, none⟩ = some (.int .i64 (wrap64 ((wrap64 (a1_0 * (wrap64 (a2_1 * t153)))) + (wrap64 (a1_1 * t152))))) ∧ w'.cell? ⟨gb155, 1, none⟩ = some (.int .i64 (wrap64 ((wrap64 (a1_2 * (wrap64 (a2_1 * t153)))) + (wrap64 (a1_3 * t152))))) ∧ w'.cell? ⟨gb154, 0, none⟩ = some (.int .i64 (wrap64 (a1_0 * t151))) ∧ w'.cell? ⟨gb154, 1, none⟩ = some (.int .i64 (wrap64 (a1_2 * t151)))) (ds := []) #[false, false, false, false, false, false, false, false, false, false, false, false, false, false, false, false, false, false, false] (by kernel_rfl) rfl rfl ⟨(blk_cell BK155.out 0).trans rfl, (blk_cell BK155.out 1).trans rfl, (blk_cell BK154.out 0).trans rfl, (blk_cell BK154.out 1).trans rfl⟩ (fun hHeld => ?_); refine with_tabW spec_l04Move.tab6 spec_l04Move.bits6 (fun HT_ HW_ => ?_)
    generalize w34.drew = w35 at BK148 BK149 BK150 BK154 BK155 HB hHeld ⊢
    refine pu_ HT_ 0 (some 73) #[true, false, false, false, false, false, false, false, false, false, false, false, false, false, false, false, false, false, false] ?_
    refine ta_ HT_ HW_ 1 (some 74) #[true, true, false, false, false, false, false, false, false, false, false, false, false, false, false, false, false, false, false] hHeld ?_ (hy := by rintro w' ⟨s0, s1, s2, s3⟩; go_simp; with_reducible rfl)
    refine pu_ HT_ 2 (some 75) #[true, true, true, false, false, false, false, false, false, false, false, false, false, false, false, false, false, false, false] ?_
    refine pu_ HT_ 3 (some 76) #[true, true, true, true, false, false, false, false, false, false, false, false, false, false, false, false, false, false, false] ?_
    refine pu_ HT_ 4 (some 77) #[true, true, true, true, true, false, false, false, false, false, false, false, false, false, false, false, false, false, false] ?_
    refine ta_ HT_ HW_ 5 (some 78) #[true, true, true, true, true, true, false, false, false, false, false, false, false, false, false, false, false, false, false] hHeld ?_ (hy := by rintro w' ⟨s0, s1, s2, s3⟩; go_simp; with_reducible rfl)
    refine pu_ HT_ 6 (some 79) #[true, true, true, true, true, true, true, false, false, false, false, false, false, false, false, false, false, false, false] ?_
    refine pu_ HT_ 7 (some 80) #[true, true, true, true, true, true, true, true, false, false, false, false, false, false, false, false, false, false, false] ?_
    refine pv_ HT_ 8 (some 81) #[true, true, true, true, true, true, true, true, true, false, false, false, false, false, false, false, false, false, false] ?_
    refine pv_ HT_ 9 (some 82) #[true, true, true, true, true, true, true, true, true, true, false, false, false, false, false, false, false, false, false] ?_
    refine pv_ HT_ 10 (some 83) #[true, true, true, true, true, true, true, true, true, true, true, false, false, false, false, false, false, false, false] ?_
    refine pv_ HT_ 11 (some 84) #[true, true, true, true, true, true, true, true, true, true, true, true, false, false, false, false, false, false, false] ?_
    refine pv_ HT_ 12 (some 85) #[true, true, true, true, true, true, true, true, true, true, true, true, true, false, false, false, false, false, false] ?_
    refine pv_ HT_ 13 (some 86) #[true, true, true, true, true, true, true, true, true, true, true, true, true, true, false, false, false, false, false] ?_
    refine pv_ HT_ 14 (some 87) #[true, true, true, true, true, true, true, true, true, true, true, true, true, true, true, false, false, false, false] ?_
    refine pv_ HT_ 15 (some 88) #[true, true, true, true, true, true, true, true, true, true, true, true, true, true, true, true, false, false, false] ?_
    refine pv_ HT_ 16 (some 89) #[true, true, true, true, true, true, true, true, true, true, true, true, true, true, true, true, true, false, false] ?_
    refine pu_ HT_ 17 (some 90) #[true, true, true, true, true, true, true, true, true, true, true, true, true, true, true, true, true, true, false] ?_
    refine pu_ HT_ 18 (some 91) #[true, true, true, true, true, true, true, true, true, true, true, true, true, true, true, true, true, true, true] ?_
    refine done_ (done_of HT_.out (by kernel_rfl)) ?_
    try go_wp2
    go_meet
    case rel => exact ⟨_, (false), (by first | rfl | (simp; done) | (simp [*]; done) | (simp [wrap64]; done)), H', ⟨by first | omega | exact Nat.le_refl _⟩, bl_ BK148, bl_ BK149, bl_ BK150, bl_ BK154, bl_ BK155, bw_ HB⟩
   ·rw [if_neg c33] at H
    have c33b0 : ((wrap64 (a1_2 * t151)) == 0) = false := beq_eq_false_iff_ne.mpr c33
    have c33b1 : ((wrap64 (a1_2 * t151)) != 0) = true := bne_iff_ne.mpr c33
    replace H := Option.bind_eq_some_iff.mp H
    obtain ⟨t156, A360, H⟩ := H
    have A36 := Aside0.mk A360
    clear A360
    replace H := Option.bind_eq_some_iff.mp H
    obtain ⟨t157, A370, H⟩ := H
    have A37 := Aside0.mk A370
    clear A370
    have H' := Aside0.mk H
    clear H
    try go_wp2
    have n0_ : Aside0 (((w24.setCell ⟨gb155, 0, none⟩ (.int .i64 (wrap64 ((wrap64 (a1_0 * (wrap64 (a2_1 * t153)))) + (wrap64 (a1_1 * t152)))))).setCell ⟨gb155, 1, none⟩ (.int .i64 (wrap64 ((wrap64 (a1_2 * (wrap64 (a2_1 * t153)))) + (wrap64 (a1_3 * t152)))))).heap[gb148]? = some (.cells #[.int .i64 a1_0, .int .i64 a1_1, .int .i64 a1_2, .int .i64 a1_3] 33 (0, 0))) := ⟨by (with_reducible repeat first | apply blk_drewN | apply blk_drew | apply blk_alloc); refine blk_far ?_ NB148_155.out _; (with_reducible repeat first | apply blk_drewN | apply blk_drew | apply blk_alloc); refine blk_far ?_ NB148_155.out _; (with_reducible repeat first | apply blk_drewN | apply blk_drew | apply blk_alloc); exact BK148.out⟩
    have n1_ : Aside0 (((w24.setCell ⟨gb155, 0, none⟩ (.int .i64 (wrap64 ((wrap64 (a1_0 * (wrap64 (a2_1 * t153)))) + (wrap64 (a1_1 * t152)))))).setCell ⟨gb155, 1, none⟩ (.int .i64 (wrap64 ((wrap64 (a1_2 * (wrap64 (a2_1 * t153)))) + (wrap64 (a1_3 * t152)))))).heap[gb149]? = some (.cells #[.int .i64 a2_0, .int .i64 a2_1, .int .i64 a2_2] 28 (0, 0))) := ⟨by (with_reducible repeat first | apply blk_drewN | apply blk_drew | apply blk_alloc); refine blk_far ?_ NB149_155.out _; (with_reducible repeat first | apply blk_drewN | apply blk_drew | apply blk_alloc); refine blk_far ?_ NB149_155.out _; (with_reducible repeat first | apply blk_drewN | apply blk_drew | apply blk_alloc); exact BK149.out⟩
    have n2_ : Aside0 (((w24.setCell ⟨gb155, 0, none⟩ (.int .i64 (wrap64 ((wrap64 (a1_0 * (wrap64 (a2_1 * t153)))) + (wrap64 (a1_1 * t152)))))).setCell ⟨gb155, 1, none⟩ (.int .i64 (wrap64 ((wrap64 (a1_2 * (wrap64 (a2_1 * t153)))) + (wrap64 (a1_3 * t152)))))).heap[gb150]? = some (.cells #[.int .i64 0, .int .i64 0, .int .i64 0] 28 (0, 0))) := ⟨by (with_reducible repeat first | apply blk_drewN | apply blk_drew | apply blk_alloc); refine blk_far ?_ NB150_155.out _; (with_reducible repeat first | apply blk_drewN | apply blk_drew | apply blk_alloc); refine blk_far ?_ NB150_155.out _; (with_reducible repeat first | apply blk_drewN | apply blk_drew | apply blk_alloc); exact BK150.out⟩
    have n3_ : Aside0 (((w24.setCell ⟨gb155, 0, none⟩ (.int .i64 (wrap64 ((wrap64 (a1_0 * (wrap64 (a2_1 * t153)))) + (wrap64 (a1_1 * t152)))))).setCell ⟨gb155, 1, none⟩ (.int .i64 (wrap64 ((wrap64 (a1_2 * (wrap64 (a2_1 * t153)))) + (wrap64 (a1_3 * t152)))))).heap[gb154]? = some (.cells #[.int .i64 (wrap64 (a1_0 * t151)), .int .i64 (wrap64 (a1_2 * t151))] 22 (0, 0))) := ⟨by (with_reducible repeat first | apply blk_drewN | apply blk_drew | apply blk_alloc); refine blk_far ?_ NB154_155.out _; (with_reducible repeat first | apply blk_drewN | apply blk_drew | apply blk_alloc); refine blk_far ?_ NB154_155.out _; (with_reducible repeat first | apply blk_drewN | apply blk_drew | apply blk_alloc); exact BK154.out⟩
    have n4_ : Aside0 (((w24.setCell ⟨gb155, 0, none⟩ (.int .i64 (wrap64 ((wrap64 (a1_0 * (wrap64 (a2_1 * t153)))) + (wrap64 (a1_1 * t152)))))).setCell ⟨gb155, 1, none⟩ (.int .i64 (wrap64 ((wrap64 (a1_2 * (wrap64 (a2_1 * t153)))) + (wrap64 (a1_3 * t152)))))).heap[gb155]? = some (.cells #[.int .i64 (wrap64 ((wrap64 (a1_0 * (wrap64 (a2_1 * t153)))) + (wrap64 (a1_1 * t152)))), .int .i64 (wrap64 ((wrap64 (a1_2 * (wrap64 (a2_1 * t153)))) + (wrap64 (a1_3 * t152))))] 22 (0, 0))) := ⟨by (with_reducible repeat first | apply blk_drewN | apply blk_drew | apply blk_alloc); refine blk_put (cs := #[.int .i64 (wrap64 ((wrap64 (a1_0 * (wrap64 (a2_1 * t153)))) + (wrap64 (a1_1 * t152)))), .int .i64 0]) ?_ 1 _ rfl; (with_reducible repeat first | apply blk_drewN | apply blk_drew | apply blk_alloc); refine blk_put (cs := #[.int .i64 0, .int .i64 0]) ?_ 0 _ rfl; (with_reducible repeat first | apply blk_drewN | apply blk_drew | apply blk_alloc); exact BK155.out⟩
    have n5_ : Aside0 (Below w.heap.size w ((w24.setCell ⟨gb155, 0, none⟩ (.int .i64 (wrap64 ((wrap64 (a1_0 * (wrap64 (a2_1 * t153)))) + (wrap64 (a1_1 * t152)))))).setCell ⟨gb155, 1, none⟩ (.int .i64 (wrap64 ((wrap64 (a1_2 * (wrap64 (a2_1 * t153)))) + (wrap64 (a1_3 * t152))))))) := bw_ HB
    (try clear BK148)
    (try clear BK149)
    (try clear BK150)
    (try clear BK154)
    (try clear BK155)
    (try clear HB)
    generalize ((w24.setCell ⟨gb155, 0, none⟩ (.int .i64 (wrap64 ((wrap64 (a1_0 * (wrap64 (a2_1 * t153)))) + (wrap64 (a1_1 * t152)))))).setCell ⟨gb155, 1, none⟩ (.int .i64 (wrap64 ((wrap64 (a1_2 * (wrap64 (a2_1 * t153)))) + (wrap64 (a1_3 * t152)))))) = w38 at n0_ n1_ n2_ n3_ n4_ n5_ ⊢
    have BK148 := n0_
    have BK149 := n1_
    have BK150 := n2_
    have BK154 := n3_
    have BK155 := n4_
    have HB := n5_
    clear n0_ n1_ n2_ n3_ n4_ n5_
    (try (rw [drewN_self w38]; generalize hq_ : World.drewN w38 _ = w38; have n0_ : Aside0 (w38.heap[gb148]? = some (.cells #[.int .i64 a1_0, .int .i64 a1_1, .int .i64 a1_2, .int .i64 a1_3] 33 (0, 0))) := ⟨by rw [← hq_]; exact (bl_ BK148).out⟩; have n1_ : Aside0 (w38.heap[gb149]? = some (.cells #[.int .i64 a2_0, .int .i64 a2_1, .int .i64 a2_2] 28 (0, 0))) := ⟨by rw [← hq_]; exact (bl_ BK149).out⟩; have n2_ : Aside0 (w38.heap[gb150]? = some (.cells #[.int .i64 0, .int .i64 0, .int .i64 0] 28 (0, 0))) := ⟨by rw [← hq_]; exact (bl_ BK150).out⟩; have n3_ : Aside0 (w38.heap[gb154]? = some (.cells #[.int .i64 (wrap64 (a1_0 * t151)), .int .i64 (wrap64 (a1_2 * t151))] 22 (0, 0))) := ⟨by rw [← hq_]; exact (bl_ BK154).out⟩; have n4_ : Aside0 (w38.heap[gb155]? = some (.cells #[.int .i64 (wrap64 ((wrap64 (a1_0 * (wrap64 (a2_1 * t153)))) + (wrap64 (a1_1 * t152)))), .int .i64 (wrap64 ((wrap64 (a1_2 * (wrap64 (a2_1 * t153)))) + (wrap64 (a1_3 * t152))))] 22 (0, 0))) := ⟨by rw [← hq_]; exact (bl_ BK155).out⟩; have n5_ : Aside0 (Below w.heap.size w w38) := ⟨by rw [← hq_]; exact (bw_ HB).out⟩; clear BK148 BK149 BK150 BK154 BK155 HB hq_; have BK148 := n0_; have BK149 := n1_; have BK150 := n2_; have BK154 := n3_; have BK155 := n4_; have HB := n5_; clear n0_ n1_ n2_ n3_ n4_ n5_))
    replace BK148 := Aside0.mk (blk_drew BK148.out)
    replace BK149 := Aside0.mk (blk_drew BK149.out)
    replace BK150 := Aside0.mk (blk_drew BK150.out)
    replace BK154 := Aside0.mk (blk_drew BK154.out)
    replace BK155 := Aside0.mk (blk_drew BK155.out)
    replace HB := Aside0.mk (below_drew1 HB.out)
    refine start_ (n := 19) (S := fun w' => w'.cell? ⟨gb155, 0, none⟩ = some (.int .i64 (wrap64 ((wrap64 (a1_0 * (wrap64 (a2_1 * t153)))) + (wrap64 (a1_1 * t152))))) ∧ w'.cell? ⟨gb155, 1, none⟩ = some (.int .i64 (wrap64 ((wrap64 (a1_2 * (wrap64 (a2_1 * t153)))) + (wrap64 (a1_3 * t152))))) ∧ w'.cell? ⟨gb154, 0, none⟩ = some (.int .i64 (wrap64 (a1_0 * t151))) ∧ w'.cell? ⟨gb154, 1, none⟩ = some (.int .i64 (wrap64 (a1_2 * t151)))) (ds := []) #[false, false, false, false, false, false, false, false, false, false, false, false, false, false, false, false, false, false, false] (by kernel_rfl) rfl rfl ⟨(blk_cell BK155.out 0).trans rfl, (blk_cell BK155.out 1).trans rfl, (blk_cell BK154.out 0).trans rfl, (blk_cell BK154.out 1).trans rfl⟩ (fun hHeld => ?_); refine with_tabW spec_l04Move.tab6 spec_l04Move.bits6 (fun HT_ HW_ => ?_)
    generalize w38.drew = w39 at BK148 BK149 BK150 BK154 BK155 HB hHeld ⊢
    refine pu_ HT_ 0 (some 73) #[true, false, false, false, false, false, false, false, false, false, false, false, false, false, false, false, false, false, false] ?_
    refine ta_ HT_ HW_ 1 (some 74) #[true, true, false, false, false, false, false, false, false, false, false, false, false, false, false, false, false, false, false] hHeld ?_ (hy := by rintro w' ⟨s0, s1, s2, s3⟩; go_simp; with_reducible rfl)
    refine pu_ HT_ 2 (some 75) #[true, true, true, false, false, false, false, false, false, false, false, false, false, false, false, false, false, false, false] ?_
    refine pu_ HT_ 3 (some 76) #[true, true, true, true, false, false, false, false, false, false, false, false, false, false, false, false, false, false, false] ?_
    refine pu_ HT_ 4 (some 77) #[true, true, true, true, true, false, false, false, false, false, false, false, false, false, false, false, false, false, false] ?_
    refine ta_ HT_ HW_ 5 (some 78) #[true, true, true, true, true, true, false, false, false, false, false, false, false, false, false, false, false, false, false] hHeld ?_ (hy := by rintro w' ⟨s0, s1, s2, s3⟩; go_simp; with_reducible rfl)
    refine pu_ HT_ 6 (some 79) #[true, true, true, true, true, true, true, false, false, false, false, false, false, false, false, false, false, false, false] ?_
    refine pu_ HT_ 7 (some 80) #[true, true, true, true, true, true, true, true, false, false, false, false, false, false, false, false, false, false, false] ?_
    refine pu_ HT_ 8 (some 81) #[true, true, true, true, true, true, true, true, true, false, false, false, false, false, false, false, false, false, false] ?_
    refine pu_ HT_ 9 (some 82) #[true, true, true, true, true, true, true, true, true, true, false, false, false, false, false, false, false, false, false] ?_
    refine pu_ HT_ 12 (some 85) #[true, true, true, true, true, true, true, true, true, true, false, false, true, false, false, false, false, false, false] ?_
    refine pu_ HT_ 13 (some 86) #[true, true, true, true, true, true, true, true, true, true, false, false, true, true, false, false, false, false, false] ?_
    refine ta_ HT_ HW_ 10 (some 83) #[true, true, true, true, true, true, true, true, true, true, true, false, true, true, false, false, false, false, false] hHeld ?_ (hy := by rintro w' ⟨s0, s1, s2, s3⟩; go_simp; with_reducible rfl)
    refine ta_ HT_ HW_ 14 (some 87) #[true, true, true, true, true, true, true, true, true, true, true, false, true, true, true, false, false, false, false] hHeld ?_ (hy := by rintro w' ⟨s0, s1, s2, s3⟩; go_simp; with_reducible rfl)
    refine one_ (i := 11) (N := some 84) #[true, true, true, true, true, true, true, true, true, true, true, true, true, true, true, false, false, false, false] rfl rfl (one_of HT_.out (by kernel_rfl)) (by decide) (fun K hK => ?_)
    refine goes_ Try.func73 (by kernel_rfl) rfl #[.int .i64 a0, .int .i64 (wrap64 ((wrap64 (a1_2 * (wrap64 (a2_1 * t153)))) + (wrap64 (a1_3 * t152))))] (by rfl) rfl rfl (by (try simp only [List.map_toArray, List.map_cons, List.map_nil]); first | done | rfl | (simp only [List.length_drop, List.length_take]; rfl)) ?_
    with_reducible refine (spec_l01Val.calls k a0 (wrap64 ((wrap64 (a1_2 * (wrap64 (a2_1 * t153)))) + (wrap64 (a1_3 * t152)))) t156 _ A36.out).mono ?_
    rintro e w' ⟨rfl, ⟨nd, rfl⟩⟩
    refine ⟨_, rfl, ?_⟩
    refine hK.out _ _ ⟨(blk_cell BK155.out 0).trans rfl, (blk_cell BK155.out 1).trans rfl, (blk_cell BK154.out 0).trans rfl, (blk_cell BK154.out 1).trans rfl⟩ (fun hHeld => ?_)
    clear hK K
    refine norm_ (a' := ?_) ?_ ?_
    rotate_left
    ·show Act.put _ (some 84) _ = _
     simp only [Act.put, lstS, lstZ, lstC, i64_w, i32_w]
     rfl
    refine one_ (i := 15) (N := some 88) #[true, true, true, true, true, true, true, true, true, true, true, true, true, true, true, true, false, false, false] rfl rfl (one_of HT_.out (by kernel_rfl)) (by decide) (fun K hK => ?_)
    refine goes_ Try.func73 (by kernel_rfl) rfl #[.int .i64 a0, .int .i64 (wrap64 (a1_2 * t151))] (by rfl) rfl rfl (by (try simp only [List.map_toArray, List.map_cons, List.map_nil]); first | done | rfl | (simp only [List.length_drop, List.length_take]; rfl)) ?_
    with_reducible refine (spec_l01Val.calls k a0 (wrap64 (a1_2 * t151)) t157 _ A37.out).mono ?_
    rintro e w' ⟨rfl, ⟨nd, rfl⟩⟩
    refine ⟨_, rfl, ?_⟩
    refine hK.out _ _ ⟨(blk_cell BK155.out 0).trans rfl, (blk_cell BK155.out 1).trans rfl, (blk_cell BK154.out 0).trans rfl, (blk_cell BK154.out 1).trans rfl⟩ (fun hHeld => ?_)
    clear hK K
    refine norm_ (a' := ?_) ?_ ?_
    rotate_left
    ·show Act.put _ (some 88) _ = _
     simp only [Act.put, lstS, lstZ, lstC, i64_w, i32_w]
     rfl
    refine pu_ HT_ 16 (some 89) #[true, true, true, true, true, true, true, true, true, true, true, true, true, true, true, true, true, false, false] ?_
    refine pu_ HT_ 17 (some 90) #[true, true, true, true, true, true, true, true, true, true, true, true, true, true, true, true, true, true, false] ?_
    refine pu_ HT_ 18 (some 91) #[true, true, true, true, true, true, true, true, true, true, true, true, true, true, true, true, true, true, true] ?_
    refine done_ (done_of HT_.out (by kernel_rfl)) ?_
    try go_wp2
    go_meet
    case rel => exact ⟨_, (decide (t156 > t157)), (by first | rfl | (simp; done) | (simp [*]; done) | (simp [wrap64]; done)), H', ⟨by first | omega | exact Nat.le_refl _⟩, bl_ BK148, bl_ BK149, bl_ BK150, bl_ BK154, bl_ BK155, bw_ HB⟩
 case rest =>
  clear HC8
  try clear c1
  try clear c2
  try clear p2
  try clear c3
  try clear p6
  try clear c7
  try clear c16
  try clear c19
  try clear c20
  try clear c21
  try clear c25
  try clear c26
  try clear c27
  try clear c28
  try clear c30
  try clear c30b0
  try clear c30b1
  try clear c33
  try clear c33b0
  try clear c33b1
  try clear hcz17_0
  try clear hcz17_1
  try clear hcz17_2
  try clear hcz17_3
  try clear hcz22_0
  try clear hcz22_1
  try clear hcz23_0
  try clear hcz23_1
  try clear hcz23_2
  try clear hcz23_3
  try clear hcz29_0
  try clear hcz29_1
  try clear hfz17_0
  try clear hfz17_1
  try clear hfz17_2
  try clear hfz17_3
  try clear hfz22_0
  try clear hfz22_1
  try clear hfz23_0
  try clear hfz23_1
  try clear hfz23_2
  try clear hfz23_3
  try clear hfz29_0
  try clear hfz29_1
  obtain ⟨kq, x91_7, rfl, HA, HJ7, BK148, BK149, BK150, BK154, BK155, HB⟩ := hcut
  cases kq with
  | zero => exact absurd HA.out (by simp [spec_l04Move.j0])
  | succ kj7 =>
   have H := HA.out
   clear HA
   simp only [spec_l04Move.j0] at H
   have HC40 := Aside0.mk H
   clear H
   go_upto_if 91 with (fail)
   go_cut [] (fun wc => ∃ (kq : Nat) (x156000_39 : Int) (x156001_39 : Int), Aside0 (spec_l04Move.j1 kq a0 ji4 a1_0 a1_1 a1_2 a1_3 a2_0 a2_1 a2_2 x156000_39 x156001_39 = some (r1, r2, r3, r4)) ∧ Aside0 (kq ≤ kj7) ∧ Aside0 (wc.heap[gb148]? = some (.cells #[.int .i64 a1_0, .int .i64 a1_1, .int .i64 a1_2, .int .i64 a1_3] 33 (0, 0))) ∧ Aside0 (wc.heap[gb149]? = some (.cells #[.int .i64 a2_0, .int .i64 a2_1, .int .i64 a2_2] 28 (0, 0))) ∧ Aside0 (wc.heap[gb150]? = some (.cells #[.int .i64 0, .int .i64 0, .int .i64 0] 28 (0, 0))) ∧ Aside0 (wc.heap[gb154]? = some (.cells #[.int .i64 (wrap64 (a1_0 * t151)), .int .i64 (wrap64 (a1_2 * t151))] 22 (0, 0))) ∧ Aside0 (wc.heap[gb155]? = some (.cells #[.int .i64 x156000_39, .int .i64 x156001_39] 22 (0, 0))) ∧ Aside0 (Below w.heap.size w wc))
   case first =>
    have H := HC40.out
    clear HC40
    by_cases c41 : x91_7 = true
    ·subst c41
     have H1 : (spec_l04Move.j1 kj7 a0 ji4 a1_0 a1_1 a1_2 a1_3 a2_0 a2_1 a2_2 (wrap64 (a1_0 * t151)) (wrap64 (a1_2 * t151))) = some (r1, r2, r3, r4) := by rw [if_pos rfl] at H; exact H
     clear H
     have H := H1
     clear H1
     have H' := Aside0.mk H
     clear H
     have hnb42 := NB154_148.out
     have hnc42 := NB148_154.out
     have hnb43 := NB154_149.out
     have hnc43 := NB149_154.out
     have hnb44 := NB154_150.out
     have hnc44 := NB150_154.out
     have hnb45 := NB154_155.out
     have hnc45 := NB155_154.out
     have hcz46_0 : wc.cell? ⟨gb154, 0, none⟩ = some (.int .i64 (wrap64 (a1_0 * t151))) := (blk_cell BK154.out 0).trans rfl
     have hcz46_1 : wc.cell? ⟨gb154, 1, none⟩ = some (.int .i64 (wrap64 (a1_2 * t151))) := (blk_cell BK154.out 1).trans rfl
     have hfz46_0 := blk_frozen BK154.out 0
     have hfz46_1 := blk_frozen BK154.out 1
     have hnb47 := NB155_148.out
     have hnc47 := NB148_155.out
     have hnb48 := NB155_149.out
     have hnc48 := NB149_155.out
     have hnb49 := NB155_150.out
     have hnc49 := NB150_155.out
     have hcz50_0 : wc.cell? ⟨gb155, 0, none⟩ = some (.int .i64 (wrap64 ((wrap64 (a1_0 * (wrap64 (a2_1 * t153)))) + (wrap64 (a1_1 * t152))))) := (blk_cell BK155.out 0).trans rfl
     have hcz50_1 : wc.cell? ⟨gb155, 1, none⟩ = some (.int .i64 (wrap64 ((wrap64 (a1_2 * (wrap64 (a2_1 * t153)))) + (wrap64 (a1_3 * t152))))) := (blk_cell BK155.out 1).trans rfl
     have hfz50_0 := blk_frozen BK155.out 0
     have hfz50_1 := blk_frozen BK155.out 1
     go_wp2
     go_meet
     case rel => exact ⟨_, ((wrap64 (a1_0 * t151))), ((wrap64 (a1_2 * t151))), H', ⟨by have := HJ7.out; first | omega | exact Nat.le_refl _⟩, ⟨by (with_reducible repeat first | apply blk_drewN | apply blk_drew | apply blk_alloc); refine blk_far ?_ NB148_155.out _; (with_reducible repeat first | apply blk_drewN | apply blk_drew | apply blk_alloc); refine blk_far ?_ NB148_155.out _; (with_reducible repeat first | apply blk_drewN | apply blk_drew | apply blk_alloc); exact BK148.out⟩, ⟨by (with_reducible repeat first | apply blk_drewN | apply blk_drew | apply blk_alloc); refine blk_far ?_ NB149_155.out _; (with_reducible repeat first | apply blk_drewN | apply blk_drew | apply blk_alloc); refine blk_far ?_ NB149_155.out _; (with_reducible repeat first | apply blk_drewN | apply blk_drew | apply blk_alloc); exact BK149.out⟩, ⟨by (with_reducible repeat first | apply blk_drewN | apply blk_drew | apply blk_alloc); refine blk_far ?_ NB150_155.out _; (with_reducible repeat first | apply blk_drewN | apply blk_drew | apply blk_alloc); refine blk_far ?_ NB150_155.out _; (with_reducible repeat first | apply blk_drewN | apply blk_drew | apply blk_alloc); exact BK150.out⟩, ⟨by (with_reducible repeat first | apply blk_drewN | apply blk_drew | apply blk_alloc); refine blk_far ?_ NB154_155.out _; (with_reducible repeat first | apply blk_drewN | apply blk_drew | apply blk_alloc); refine blk_far ?_ NB154_155.out _; (with_reducible repeat first | apply blk_drewN | apply blk_drew | apply blk_alloc); exact BK154.out⟩, ⟨by (with_reducible repeat first | apply blk_drewN | apply blk_drew | apply blk_alloc); refine blk_put (cs := #[.int .i64 (wrap64 (a1_0 * t151)), .int .i64 (wrap64 ((wrap64 (a1_2 * (wrap64 (a2_1 * t153)))) + (wrap64 (a1_3 * t152))))]) ?_ 1 _ rfl; (with_reducible repeat first | apply blk_drewN | apply blk_drew | apply blk_alloc); refine blk_put (cs := #[.int .i64 (wrap64 ((wrap64 (a1_0 * (wrap64 (a2_1 * t153)))) + (wrap64 (a1_1 * t152)))), .int .i64 (wrap64 ((wrap64 (a1_2 * (wrap64 (a2_1 * t153)))) + (wrap64 (a1_3 * t152))))]) ?_ 0 _ rfl; (with_reducible repeat first | apply blk_drewN | apply blk_drew | apply blk_alloc); exact BK155.out⟩, bw_ HB⟩
    ·replace c41 := Bool.eq_false_iff.mpr c41
     subst c41
     have H1 : (spec_l04Move.j1 kj7 a0 ji4 a1_0 a1_1 a1_2 a1_3 a2_0 a2_1 a2_2 (wrap64 ((wrap64 (a1_0 * (wrap64 (a2_1 * t153)))) + (wrap64 (a1_1 * t152)))) (wrap64 ((wrap64 (a1_2 * (wrap64 (a2_1 * t153)))) + (wrap64 (a1_3 * t152))))) = some (r1, r2, r3, r4) := by rw [if_neg (show ¬ (false = true) by decide)] at H; exact H
     clear H
     have H := H1
     clear H1
     have H' := Aside0.mk H
     clear H
     go_wp2
     go_meet
     case rel => exact ⟨_, ((wrap64 ((wrap64 (a1_0 * (wrap64 (a2_1 * t153)))) + (wrap64 (a1_1 * t152))))), ((wrap64 ((wrap64 (a1_2 * (wrap64 (a2_1 * t153)))) + (wrap64 (a1_3 * t152))))), H', ⟨by have := HJ7.out; first | omega | exact Nat.le_refl _⟩, bl_ BK148, bl_ BK149, bl_ BK150, bl_ BK154, bl_ BK155, bw_ HB⟩
   case rest =>
    clear HC40
    try clear c1
    try clear c2
    try clear p2
    try clear c3
    try clear c4
    try clear p6
    try clear c7
    try clear c16
    try clear c19
    try clear c20
    try clear c21
    try clear c25
    try clear c26
    try clear c27
    try clear c28
    try clear c30
    try clear c30b0
    try clear c30b1
    try clear c33
    try clear c33b0
    try clear c33b1
    try clear c41
    try clear c42
    try clear c43
    try clear c44
    try clear c45
    try clear c47
    try clear c48
    try clear c49
    try clear hcz17_0
    try clear hcz17_1
    try clear hcz17_2
    try clear hcz17_3
    try clear hcz22_0
    try clear hcz22_1
    try clear hcz23_0
    try clear hcz23_1
    try clear hcz23_2
    try clear hcz23_3
    try clear hcz29_0
    try clear hcz29_1
    try clear hcz46_0
    try clear hcz46_1
    try clear hcz50_0
    try clear hcz50_1
    try clear hfz17_0
    try clear hfz17_1
    try clear hfz17_2
    try clear hfz17_3
    try clear hfz22_0
    try clear hfz22_1
    try clear hfz23_0
    try clear hfz23_1
    try clear hfz23_2
    try clear hfz23_3
    try clear hfz29_0
    try clear hfz29_1
    try clear hfz46_0
    try clear hfz46_1
    try clear hfz50_0
    try clear hfz50_1
    try clear p2
    try clear p6
    obtain ⟨kq, x156000_39, x156001_39, HA, HJ39, BK148, BK149, BK150, BK154, BK155, HB⟩ := hcut
    cases kq with
    | zero => exact absurd HA.out (by simp [spec_l04Move.j1])
    | succ kj39 =>
     have H := HA.out
     clear HA
     simp only [spec_l04Move.j1] at H
     replace H := Option.bind_eq_some_iff.mp H
     obtain ⟨t158, A510, H⟩ := H
     have A51 := Aside0.mk A510
     clear A510
     replace H := Option.bind_eq_some_iff.mp H
     obtain ⟨t159, A520, H⟩ := H
     have A52 := Aside0.mk A520
     clear A520
     replace H := Option.bind_eq_some_iff.mp H
     obtain ⟨t160, A530, H⟩ := H
     have A53 := Aside0.mk A530
     clear A530
     replace H := Option.bind_eq_some_iff.mp H
     obtain ⟨⟨t161, t162, t163, t164⟩, A540, H⟩ := H
     have A54 := Aside0.mk A540
     clear A540
     simp only [Option.some.injEq, Prod.mk.injEq] at H
     obtain ⟨rfl, rfl, rfl, rfl⟩ := H
     try go_wp2
     replace BK148 := Aside0.mk (blk_drew BK148.out)
     replace BK149 := Aside0.mk (blk_drew BK149.out)
     replace BK150 := Aside0.mk (blk_drew BK150.out)
     replace BK154 := Aside0.mk (blk_drew BK154.out)
     replace BK155 := Aside0.mk (blk_drew BK155.out)
     replace HB := Aside0.mk (below_drew1 HB.out)
     refine start_ (n := 17) (S := fun w' => w'.cell? ⟨gb148, 0, none⟩ = some (.int .i64 a1_0) ∧ w'.cell? ⟨gb148, 1, none⟩ = some (.int .i64 a1_1) ∧ w'.cell? ⟨gb148, 2, none⟩ = some (.int .i64 a1_2) ∧ w'.cell? ⟨gb148, 3, none⟩ = some (.int .i64 a1_3) ∧ w'.cell? ⟨gb149, 0, none⟩ = some (.int .i64 a2_0) ∧ w'.cell? ⟨gb149, 1, none⟩ = some (.int .i64 a2_1) ∧ w'.cell? ⟨gb149, 2, none⟩ = some (.int .i64 a2_2) ∧ w'.cell? ⟨gb155, 0, none⟩ = some (.int .i64 x156000_39) ∧ w'.cell? ⟨gb155, 1, none⟩ = some (.int .i64 x156001_39)) (ds := []) #[false, false, false, false, false, false, false, false, false, false, false, false, false, false, false, false, false] (by kernel_rfl) rfl rfl ⟨(blk_cell BK148.out 0).trans rfl, (blk_cell BK148.out 1).trans rfl, (blk_cell BK148.out 2).trans rfl, (blk_cell BK148.out 3).trans rfl, (blk_cell BK149.out 0).trans rfl, (blk_cell BK149.out 1).trans rfl, (blk_cell BK149.out 2).trans rfl, (blk_cell BK155.out 0).trans rfl, (blk_cell BK155.out 1).trans rfl⟩ (fun hHeld => ?_); refine with_tabW spec_l04Move.tab8 spec_l04Move.bits8 (fun HT_ HW_ => ?_)
     generalize wc.drew = w55 at BK148 BK149 BK150 BK154 BK155 HB hHeld ⊢
     refine pu_ HT_ 0 (some 93) #[true, false, false, false, false, false, false, false, false, false, false, false, false, false, false, false, false] ?_
     refine pu_ HT_ 4 (some 97) #[true, false, false, false, true, false, false, false, false, false, false, false, false, false, false, false, false] ?_
     refine pu_ HT_ 7 (some 100) #[true, false, false, false, true, false, false, true, false, false, false, false, false, false, false, false, false] ?_
     refine pu_ HT_ 8 (some 101) #[true, false, false, false, true, false, false, true, true, false, false, false, false, false, false, false, false] ?_
     refine pu_ HT_ 10 (some 103) #[true, false, false, false, true, false, false, true, true, false, true, false, false, false, false, false, false] ?_
     refine pu_ HT_ 11 (some 104) #[true, false, false, false, true, false, false, true, true, false, true, true, false, false, false, false, false] ?_
     refine ta_ HT_ HW_ 1 (some 94) #[true, true, false, false, true, false, false, true, true, false, true, true, false, false, false, false, false] hHeld ?_ (hy := by rintro w' ⟨s0, s1, s2, s3, s4, s5, s6, s7, s8⟩; go_simp; with_reducible rfl)
     refine ta_ HT_ HW_ 5 (some 98) #[true, true, false, false, true, true, false, true, true, false, true, true, false, false, false, false, false] hHeld ?_ (hy := by rintro w' ⟨s0, s1, s2, s3, s4, s5, s6, s7, s8⟩; go_simp; with_reducible rfl)
     refine ta_ HT_ HW_ 12 (some 105) #[true, true, false, false, true, true, false, true, true, false, true, true, true, false, false, false, false] hHeld ?_ (hy := by rintro w' ⟨s0, s1, s2, s3, s4, s5, s6, s7, s8⟩; go_simp; with_reducible rfl)
     refine one_ (i := 2) (N := some 95) #[true, true, true, false, true, true, false, true, true, false, true, true, true, false, false, false, false] rfl rfl (one_of HT_.out (by kernel_rfl)) (by decide) (fun K hK => ?_)
     refine goes_ Try.func71 (by kernel_rfl) rfl #[.agg #[.int .i64 a1_0, .int .i64 a1_1, .int .i64 a1_2, .int .i64 a1_3]] (by rfl) rfl rfl (by (try simp only [List.map_toArray, List.map_cons, List.map_nil]); first | done | rfl | (simp only [List.length_drop, List.length_take]; rfl)) ?_
     with_reducible refine (spec_l04Det.calls a1_0 a1_1 a1_2 a1_3 t158 _ A51.out).mono ?_
     rintro e w56 ⟨rfl, hb⟩
     refine ⟨_, rfl, ?_⟩
     replace BK148 := bb_ BK148 hb
     replace BK149 := bb_ BK149 hb
     replace BK150 := bb_ BK150 hb
     replace BK154 := bb_ BK154 hb
     replace BK155 := bb_ BK155 hb
     replace HB := bt_ HB hb
     (try clear hb)
     (try clear hb2)
     (try clear hk)
     (try clear hi)
     refine hK.out _ _ ⟨(blk_cell BK148.out 0).trans rfl, (blk_cell BK148.out 1).trans rfl, (blk_cell BK148.out 2).trans rfl, (blk_cell BK148.out 3).trans rfl, (blk_cell BK149.out 0).trans rfl, (blk_cell BK149.out 1).trans rfl, (blk_cell BK149.out 2).trans rfl, (blk_cell BK155.out 0).trans rfl, (blk_cell BK155.out 1).trans rfl⟩ (fun hHeld => ?_)
     clear hK K
     refine norm_ (a' := ?_) ?_ ?_
     rotate_left
     ·show Act.put _ (some 95) _ = _
      simp only [Act.put, lstS, lstZ, lstC, i64_w, i32_w]
      rfl
     refine one_ (i := 3) (N := some 96) #[true, true, true, true, true, true, false, true, true, false, true, true, true, false, false, false, false] rfl rfl (one_of HT_.out (by kernel_rfl)) (by decide) (fun K hK => ?_)
     refine goes_ Try.func73 (by kernel_rfl) rfl #[.int .i64 a0, .int .i64 t158] (by rfl) rfl rfl (by (try simp only [List.map_toArray, List.map_cons, List.map_nil]); first | done | rfl | (simp only [List.length_drop, List.length_take]; rfl)) ?_
     with_reducible refine (spec_l01Val.calls kj39 a0 t158 t159 _ A52.out).mono ?_
     rintro e w' ⟨rfl, ⟨nd, rfl⟩⟩
     refine ⟨_, rfl, ?_⟩
     refine hK.out _ _ ⟨(blk_cell BK148.out 0).trans rfl, (blk_cell BK148.out 1).trans rfl, (blk_cell BK148.out 2).trans rfl, (blk_cell BK148.out 3).trans rfl, (blk_cell BK149.out 0).trans rfl, (blk_cell BK149.out 1).trans rfl, (blk_cell BK149.out 2).trans rfl, (blk_cell BK155.out 0).trans rfl, (blk_cell BK155.out 1).trans rfl⟩ (fun hHeld => ?_)
     clear hK K
     refine norm_ (a' := ?_) ?_ ?_
     rotate_left
     ·show Act.put _ (some 96) _ = _
      simp only [Act.put, lstS, lstZ, lstC, i64_w, i32_w]
      rfl
     refine pu_ HT_ 6 (some 99) #[true, true, true, true, true, true, true, true, true, false, true, true, true, false, false, false, false] ?_
     refine pu_ HT_ 9 (some 102) #[true, true, true, true, true, true, true, true, true, true, true, true, true, false, false, false, false] ?_
     refine one_ (i := 13) (N := some 106) #[true, true, true, true, true, true, true, true, true, true, true, true, true, true, false, false, false] rfl rfl (one_of HT_.out (by kernel_rfl)) (by decide) (fun K hK => ?_)
     refine goes_ Try.func73 (by kernel_rfl) rfl #[.int .i64 a0, .int .i64 x156001_39] (by rfl) rfl rfl (by (try simp only [List.map_toArray, List.map_cons, List.map_nil]); first | done | rfl | (simp only [List.length_drop, List.length_take]; rfl)) ?_
     with_reducible refine (spec_l01Val.calls kj39 a0 x156001_39 t160 _ A53.out).mono ?_
     rintro e w' ⟨rfl, ⟨nd, rfl⟩⟩
     refine ⟨_, rfl, ?_⟩
     refine hK.out _ _ ⟨(blk_cell BK148.out 0).trans rfl, (blk_cell BK148.out 1).trans rfl, (blk_cell BK148.out 2).trans rfl, (blk_cell BK148.out 3).trans rfl, (blk_cell BK149.out 0).trans rfl, (blk_cell BK149.out 1).trans rfl, (blk_cell BK149.out 2).trans rfl, (blk_cell BK155.out 0).trans rfl, (blk_cell BK155.out 1).trans rfl⟩ (fun hHeld => ?_)
     clear hK K
     refine norm_ (a' := ?_) ?_ ?_
     rotate_left
     ·show Act.put _ (some 106) _ = _
      simp only [Act.put, lstS, lstZ, lstC, i64_w, i32_w]
      rfl
     refine pu_ HT_ 14 (some 107) #[true, true, true, true, true, true, true, true, true, true, true, true, true, true, true, false, false] ?_
     refine pu_ HT_ 15 (some 108) #[true, true, true, true, true, true, true, true, true, true, true, true, true, true, true, true, false] ?_
     refine pu_ HT_ 16 (some 14) #[true, true, true, true, true, true, true, true, true, true, true, true, true, true, true, true, true] ?_
     refine done_ (done_of HT_.out (by kernel_rfl)) ?_
     have hnb57 := NB155_148.out
     have hnc57 := NB148_155.out
     have hnb58 := NB155_149.out
     have hnc58 := NB149_155.out
     have hnb59 := NB155_150.out
     have hnc59 := NB150_155.out
     have hnb60 := NB155_154.out
     have hnc60 := NB154_155.out
     have hcz61_0 : w56.cell? ⟨gb155, 0, none⟩ = some (.int .i64 x156000_39) := (blk_cell BK155.out 0).trans rfl
     have hcz61_1 : w56.cell? ⟨gb155, 1, none⟩ = some (.int .i64 x156001_39) := (blk_cell BK155.out 1).trans rfl
     have hfz61_0 := blk_frozen BK155.out 0
     have hfz61_1 := blk_frozen BK155.out 1
     try go_wp2_with (first | ((with_reducible refine gate_callee (f := 74) rfl ?_); refine goesL_ (some 115) rfl rfl Try.func74 (by kernel_rfl) rfl #[.int .i64 a0, .int .i64 x156000_39, .int .i64 x156001_39, .int .i64 (wrap64 ((wrap64 ((wrap64 (t159 + a2_0)) + (wrap64 (2 * ji4)))) - (wrap64 (2 * t160))))] rfl (by (try simp only [List.map_toArray, List.map_cons, List.map_nil]); first | done | (simp only [hji4]; rfl) | rfl | (simp only [List.length_drop, List.length_take]; rfl)) ?_; (with_reducible refine (spec_l01Of.calls kj39 a0 x156000_39 x156001_39 (wrap64 ((wrap64 ((wrap64 (t159 + a2_0)) + (wrap64 (2 * ji4)))) - (wrap64 (2 * t160)))) t161 t162 t163 t164 _ A54.out).mono ?_); rintro e w62 ⟨rfl, hb⟩; refine ⟨_, rfl, ?_⟩; replace BK148 := bb_ BK148 hb; replace BK149 := bb_ BK149 hb; replace BK150 := bb_ BK150 hb; replace BK154 := bb_ BK154 hb; replace BK155 := bb_ BK155 hb; replace HB := bt_ HB hb; (try clear hb); (try clear hb2); (try clear hk); (try clear hi); have hnb63 := NB150_148.out; have hnc63 := NB148_150.out; have hnb64 := NB150_149.out; have hnc64 := NB149_150.out; have hnb65 := NB150_154.out; have hnc65 := NB154_150.out; have hcz66_0 : w62.cell? ⟨gb150, 0, none⟩ = some (.int .i64 0) := (blk_cell BK150.out 0).trans rfl; have hcz66_1 : w62.cell? ⟨gb150, 1, none⟩ = some (.int .i64 0) := (blk_cell BK150.out 1).trans rfl; have hcz66_2 : w62.cell? ⟨gb150, 2, none⟩ = some (.int .i64 0) := (blk_cell BK150.out 2).trans rfl; have hfz66_0 := blk_frozen BK150.out 0; have hfz66_1 := blk_frozen BK150.out 1; have hfz66_2 := blk_frozen BK150.out 2))
     refine bodyPost_ret (results_ct rfl _ _ gb150 28 #[.int .i64 t161, .int .i64 t162, .int .i64 t163] (0, 0) _ rfl (by (with_reducible repeat first | apply blk_drewN | apply blk_drew | apply blk_alloc); refine blk_put (cs := #[.int .i64 t161, .int .i64 t162, .int .i64 0]) ?_ 2 _ rfl; (with_reducible repeat first | apply blk_drewN | apply blk_drew | apply blk_alloc); refine blk_put (cs := #[.int .i64 t161, .int .i64 0, .int .i64 0]) ?_ 1 _ rfl; (with_reducible repeat first | apply blk_drewN | apply blk_drew | apply blk_alloc); refine blk_put (cs := #[.int .i64 0, .int .i64 0, .int .i64 0]) ?_ 0 _ rfl; (with_reducible repeat first | apply blk_drewN | apply blk_drew | apply blk_alloc); exact BK150.out) Try.underlying28 rfl (by kernel_rfl)) rfl ?_
     exact ⟨by first | rfl | (simp [errW_none, errW_some] <;> rfl) | (simp only [← hji4]; first | rfl | (simp [errW_none, errW_some] <;> rfl)) | (simp [*, errW_none, errW_some] <;> rfl), by repeat (first | (with_reducible first | exact HB.out | apply below_alloc | apply pw_below_drewN | apply below_drew1 | refine below_set ?_ GE148.out | refine below_set ?_ GE149.out | refine below_set ?_ GE150.out | refine below_set ?_ GE154.out | refine below_set ?_ GE155.out) | exact HB.out)⟩
end Go.Proofs.Ytojpcbbmbnmchaa.QC
