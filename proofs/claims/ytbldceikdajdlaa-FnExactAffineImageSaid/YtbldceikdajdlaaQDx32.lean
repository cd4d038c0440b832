import Derived.Test.YtbldceikdajdlaaQDx4
import Derived.Test.YtbldceikdajdlaaQDx19
import Derived.Test.YtbldceikdajdlaaQDx28
import Derived.Test.YtbldceikdajdlaaQDx31
namespace Go.Proofs.Ytbldceikdajdlaa.QD
open Go.RowKit Go.Proofs.YtbldceikdajdlaaW.PrintWords Go.Proofs.YtbldceikdajdlaaW.PrintLast Go.Proofs.YtbldceikdajdlaaW.PrintMore
attribute [local go_sem] isSome_setCell max2_int min2_int max_two min_two max_three min_three max_four min_four
set_option linter.unusedVariables false
set_option linter.unusedSimpArgs false

/-! ### spec_l04Move: function 52 -/
mutual
def spec_l04Move.j0 : Nat → Int → Int → Bool → Int → Int → Int → Int → Int → Int → Int → Int → Int → Int → Int → Option (Int × Int × Int × Bool)
 | 0, _, _, _, _, _, _, _, _, _, _, _, _, _, _ => none
 | k + 1, x0, x8, x91, x269000, x269001, x269002, x269003, x270000, x270001, x270002, x275000, x275001, x276000, x276001 => if x91 = true then (spec_l04Move.j1 k x0 x8 x269000 x269001 x269002 x269003 x270000 x270001 x270002 x275000 x275001) else (spec_l04Move.j1 k x0 x8 x269000 x269001 x269002 x269003 x270000 x270001 x270002 x276000 x276001)
def spec_l04Move.j1 : Nat → Int → Int → Int → Int → Int → Int → Int → Int → Int → Int → Int → Option (Int × Int × Int × Bool)
 | 0, _, _, _, _, _, _, _, _, _, _, _ => none
 | k + 1, x0, x8, x269000, x269001, x269002, x269003, x270000, x270001, x270002, x276000, x276001 => (spec_l04Det.f x269000 x269001 x269002 x269003).bind fun t278 => ((spec_l01Val.f k x0 t278).bind fun t279 => ((spec_l01Val.f k x0 x276001).bind fun t280 => ((spec_l01Of.f k x0 x276000 x276001 (wrap64 ((wrap64 ((wrap64 (t279 + x270000)) + (wrap64 (2 * x8)))) - (wrap64 (2 * t280))))).bind fun bt281 => (some (bt281.1, bt281.2.1, bt281.2.2.1, bt281.2.2.2)))))
end
def spec_l04Move.f (k : Nat) (a0 : Int) (a1_0 : Int) (a1_1 : Int) (a1_2 : Int) (a1_3 : Int) (a2_0 : Int) (a2_1 : Int) (a2_2 : Int) : Option (Int × Int × Int × Bool) := (spec_l01Power.f k a0 (wrap64 (a2_0 + (mx a2_2 (wrap64 (-a2_0)))))).bind fun t271 => ((spec_l01Power.f k a0 (mx a2_2 (wrap64 (-a2_0)))).bind fun t272 => ((spec_l01Power.f k a0 (wrap64 ((mx a2_2 (wrap64 (-a2_0))) - a2_2))).bind fun t273 => (if (wrap64 ((wrap64 (a1_2 * (wrap64 (a2_1 * t273)))) + (wrap64 (a1_3 * t272)))) = 0 then (spec_l04Move.j0 k a0 (mx a2_2 (wrap64 (-a2_0))) true a1_0 a1_1 a1_2 a1_3 a2_0 a2_1 a2_2 (wrap64 (a1_0 * t271)) (wrap64 (a1_2 * t271)) (wrap64 ((wrap64 (a1_0 * (wrap64 (a2_1 * t273)))) + (wrap64 (a1_1 * t272)))) (wrap64 ((wrap64 (a1_2 * (wrap64 (a2_1 * t273)))) + (wrap64 (a1_3 * t272))))) else (if (wrap64 (a1_2 * t271)) = 0 then (spec_l04Move.j0 k a0 (mx a2_2 (wrap64 (-a2_0))) false a1_0 a1_1 a1_2 a1_3 a2_0 a2_1 a2_2 (wrap64 (a1_0 * t271)) (wrap64 (a1_2 * t271)) (wrap64 ((wrap64 (a1_0 * (wrap64 (a2_1 * t273)))) + (wrap64 (a1_1 * t272)))) (wrap64 ((wrap64 (a1_2 * (wrap64 (a2_1 * t273)))) + (wrap64 (a1_3 * t272))))) else ((spec_l01Val.f k a0 (wrap64 ((wrap64 (a1_2 * (wrap64 (a2_1 * t273)))) + (wrap64 (a1_3 * t272))))).bind fun t276 => ((spec_l01Val.f k a0 (wrap64 (a1_2 * t271))).bind fun t277 => (spec_l04Move.j0 k a0 (mx a2_2 (wrap64 (-a2_0))) (decide (t276 > t277)) a1_0 a1_1 a1_2 a1_3 a2_0 a2_1 a2_2 (wrap64 (a1_0 * t271)) (wrap64 (a1_2 * t271)) (wrap64 ((wrap64 (a1_0 * (wrap64 (a2_1 * t273)))) + (wrap64 (a1_1 * t272)))) (wrap64 ((wrap64 (a1_2 * (wrap64 (a2_1 * t273)))) + (wrap64 (a1_3 * t272)))))))))))
def spec_l04Move.T3 : Bool × List (List Nat × List Nat) := (true, [([], []), ([0], [0]), ([], []), ([], []), ([], []), ([4], [4]), ([3, 5], [3, 5]), ([2, 6], [2, 6]), ([1, 7], [1, 7]), ([8, 7, 0, 1, 2, 3, 4, 5, 6, 7, 8], [8])])
def spec_l04Move.B3 : List Nat := [0, 1, 0, 0, 0, 16, 56, 124, 255, 511]
theorem spec_l04Move.tab3 : rtab .any (opsOf Try.f52 3) = spec_l04Move.T3 := by kernel_rfl
theorem spec_l04Move.bits3 : waitsOk spec_l04Move.T3.2 spec_l04Move.B3 = true := by kernel_rfl
def spec_l04Move.T6 : Bool × List (List Nat × List Nat) := (true, [([], []), ([0], [0]), ([1], [1]), ([2], [2]), ([3], [3]), ([4, 3], [3, 4]), ([5, 3], [3, 5]), ([6, 3, 3], [3, 6]), ([7], [7]), ([7], [7]), ([9, 7], [7, 9]), ([8, 10, 7, 7], [7, 8, 10]), ([7], [7]), ([7], [7]), ([13, 7], [7, 13]), ([12, 14, 11, 7], [7, 12, 14]), ([11, 15, 7], [7, 11, 15]), ([7, 16, 3], [3, 7, 16]), ([3, 17], [3, 17])])
def spec_l04Move.B6 : List Nat := [0, 1, 3, 7, 15, 31, 63, 127, 255, 255, 767, 2047, 255, 255, 8447, 32767, 65535, 131071, 262143]
theorem spec_l04Move.tab6 : rtab .any (opsOf Try.f52 6) = spec_l04Move.T6 := by kernel_rfl
theorem spec_l04Move.bits6 : waitsOk spec_l04Move.T6.2 spec_l04Move.B6 = true := by kernel_rfl
def spec_l04Move.T8 : Bool × List (List Nat × List Nat) := (true, [([], []), ([], []), ([1], [1]), ([0, 2, 2], [0, 2]), ([], []), ([4], [4]), ([3, 5], [3, 5]), ([], []), ([7], [7]), ([6, 8], [6, 8]), ([], []), ([], []), ([11], [11]), ([10, 12, 3], [10, 12]), ([13], [13]), ([9, 14], [9, 14]), ([15, 13, 0, 1, 2, 3, 4, 5, 6, 7, 8, 9, 10, 11, 12, 13, 14, 15], [15])])
def spec_l04Move.B8 : List Nat := [0, 0, 2, 7, 0, 16, 63, 0, 128, 511, 0, 0, 2048, 7183, 15375, 32767, 65535]
theorem spec_l04Move.tab8 : rtab .any (opsOf Try.f52 8) = spec_l04Move.T8 := by kernel_rfl
theorem spec_l04Move.bits8 : waitsOk spec_l04Move.T8.2 spec_l04Move.B8 = true := by kernel_rfl
set_option maxHeartbeats 8000000 in
set_option maxRecDepth 100000 in
theorem spec_l04Move.calls (k : Nat) (a0 : Int) (a1_0 : Int) (a1_1 : Int) (a1_2 : Int) (a1_3 : Int) (a2_0 : Int) (a2_1 : Int) (a2_2 : Int) (r1 : Int) (r2 : Int) (r3 : Int) (r4 : Bool) (w : World) (h : spec_l04Move.f k a0 a1_0 a1_1 a1_2 a1_3 a2_0 a2_1 a2_2 = some (r1, r2, r3, r4)) :
  Calls Try.prog 52 #[.int .i64 a0, .agg #[.int .i64 a1_0, .int .i64 a1_1, .int .i64 a1_2, .int .i64 a1_3], .agg #[.int .i64 a2_0, .int .i64 a2_1, .int .i64 a2_2]] w fun e w' => e = .returned (.tuple #[.agg #[.int .i64 r1, .int .i64 r2, .int .i64 r3], .bool r4]) ∧ Below w.heap.size w w' := by
 have hu83 := Try.underlying83
 have hu25 := Try.underlying25
 have hu81 := Try.underlying81
 have HB := Aside0.mk (Below.refl w.heap.size w)
 have H : ((spec_l01Power.f k a0 (wrap64 (a2_0 + (mx a2_2 (wrap64 (-a2_0)))))).bind fun t271 => ((spec_l01Power.f k a0 (mx a2_2 (wrap64 (-a2_0)))).bind fun t272 => ((spec_l01Power.f k a0 (wrap64 ((mx a2_2 (wrap64 (-a2_0))) - a2_2))).bind fun t273 => (if (wrap64 ((wrap64 (a1_2 * (wrap64 (a2_1 * t273)))) + (wrap64 (a1_3 * t272)))) = 0 then (spec_l04Move.j0 k a0 (mx a2_2 (wrap64 (-a2_0))) true a1_0 a1_1 a1_2 a1_3 a2_0 a2_1 a2_2 (wrap64 (a1_0 * t271)) (wrap64 (a1_2 * t271)) (wrap64 ((wrap64 (a1_0 * (wrap64 (a2_1 * t273)))) + (wrap64 (a1_1 * t272)))) (wrap64 ((wrap64 (a1_2 * (wrap64 (a2_1 * t273)))) + (wrap64 (a1_3 * t272))))) else (if (wrap64 (a1_2 * t271)) = 0 then (spec_l04Move.j0 k a0 (mx a2_2 (wrap64 (-a2_0))) false a1_0 a1_1 a1_2 a1_3 a2_0 a2_1 a2_2 (wrap64 (a1_0 * t271)) (wrap64 (a1_2 * t271)) (wrap64 ((wrap64 (a1_0 * (wrap64 (a2_1 * t273)))) + (wrap64 (a1_1 * t272)))) (wrap64 ((wrap64 (a1_2 * (wrap64 (a2_1 * t273)))) + (wrap64 (a1_3 * t272))))) else ((spec_l01Val.f k a0 (wrap64 ((wrap64 (a1_2 * (wrap64 (a2_1 * t273)))) + (wrap64 (a1_3 * t272))))).bind fun t276 => ((spec_l01Val.f k a0 (wrap64 (a1_2 * t271))).bind fun t277 => (spec_l04Move.j0 k a0 (mx a2_2 (wrap64 (-a2_0))) (decide (t276 > t277)) a1_0 a1_1 a1_2 a1_3 a2_0 a2_1 a2_2 (wrap64 (a1_0 * t271)) (wrap64 (a1_2 * t271)) (wrap64 ((wrap64 (a1_0 * (wrap64 (a2_1 * t273)))) + (wrap64 (a1_1 * t272)))) (wrap64 ((wrap64 (a1_2 * (wrap64 (a2_1 * t273)))) + (wrap64 (a1_3 * t272)))))))))))) = some (r1, r2, r3, r4) := h
 clear h
 obtain ⟨ji4, hji4⟩ : ∃ j_ : Int, (mx a2_2 (wrap64 (-a2_0))) = j_ := ⟨_, rfl⟩
 replace H : ((spec_l01Power.f k a0 (wrap64 (a2_0 + (ji4)))).bind fun t271 => ((spec_l01Power.f k a0 (ji4)).bind fun t272 => ((spec_l01Power.f k a0 (wrap64 ((ji4) - a2_2))).bind fun t273 => (if (wrap64 ((wrap64 (a1_2 * (wrap64 (a2_1 * t273)))) + (wrap64 (a1_3 * t272)))) = 0 then (spec_l04Move.j0 k a0 ji4 true a1_0 a1_1 a1_2 a1_3 a2_0 a2_1 a2_2 (wrap64 (a1_0 * t271)) (wrap64 (a1_2 * t271)) (wrap64 ((wrap64 (a1_0 * (wrap64 (a2_1 * t273)))) + (wrap64 (a1_1 * t272)))) (wrap64 ((wrap64 (a1_2 * (wrap64 (a2_1 * t273)))) + (wrap64 (a1_3 * t272))))) else (if (wrap64 (a1_2 * t271)) = 0 then (spec_l04Move.j0 k a0 ji4 false a1_0 a1_1 a1_2 a1_3 a2_0 a2_1 a2_2 (wrap64 (a1_0 * t271)) (wrap64 (a1_2 * t271)) (wrap64 ((wrap64 (a1_0 * (wrap64 (a2_1 * t273)))) + (wrap64 (a1_1 * t272)))) (wrap64 ((wrap64 (a1_2 * (wrap64 (a2_1 * t273)))) + (wrap64 (a1_3 * t272))))) else ((spec_l01Val.f k a0 (wrap64 ((wrap64 (a1_2 * (wrap64 (a2_1 * t273)))) + (wrap64 (a1_3 * t272))))).bind fun t276 => ((spec_l01Val.f k a0 (wrap64 (a1_2 * t271))).bind fun t277 => (spec_l04Move.j0 k a0 ji4 (decide (t276 > t277)) a1_0 a1_1 a1_2 a1_3 a2_0 a2_1 a2_2 (wrap64 (a1_0 * t271)) (wrap64 (a1_2 * t271)) (wrap64 ((wrap64 (a1_0 * (wrap64 (a2_1 * t273)))) + (wrap64 (a1_1 * t272)))) (wrap64 ((wrap64 (a1_2 * (wrap64 (a2_1 * t273)))) + (wrap64 (a1_3 * t272)))))))))))) = some (r1, r2, r3, r4) := by first | (rw [hji4] at H; exact H) | (simp only [hji4] at H ⊢; exact H)
 have hji4_k : (if a2_2 < (IntKind.i64.wrap (-a2_0)) then (IntKind.i64.wrap (-a2_0)) else a2_2) = ji4 := by simp only [i64_w]; exact hji4
 have hji4_ : (if a2_2 < (wrap64 (-a2_0)) then (wrap64 (-a2_0)) else a2_2) = ji4 := hji4
 replace H := ob_ H
 obtain ⟨t271, A50, H⟩ := H
 have A5 := Aside0.mk A50
 clear A50
 replace H := ob_ H
 obtain ⟨t272, A60, H⟩ := H
 have A6 := Aside0.mk A60
 clear A60
 replace H := ob_ H
 obtain ⟨t273, A70, H⟩ := H
 have A7 := Aside0.mk A70
 clear A70
 have HC8 := Aside0.mk H
 clear H
 go_enter Try.func52, Try.ntmps52
 try go_wp2_with (first | (refine bx_ 4 #[.int .i64 a1_0, .int .i64 a1_1, .int .i64 a1_2, .int .i64 a1_3] 83 ?_; intro gb268 hg w9 hbox hb; have BK268 := Aside0.mk (hbox); have GW268 := bs_ HB hg; have GE268 := bs_ HB hg; replace HB := bt_ HB hb; clear hb hbox hg) | (refine bx_ 5 #[.int .i64 a2_0, .int .i64 a2_1, .int .i64 a2_2] 25 ?_; intro gb269 hg w10 hbox hb; have BK269 := Aside0.mk (hbox); have GW269 := bs_ HB hg; have GE269 := bs_ HB hg; have NB268_269 := bm_ BK268 hg; have NB269_268 := bn_ BK268 hg; replace BK268 := bb_ BK268 hb; replace HB := bt_ HB hb; clear hb hbox hg) | (refine bx_ 6 #[.int .i64 0, .int .i64 0, .int .i64 0] 25 ?_; intro gb270 hg w11 hbox hb; have BK270 := Aside0.mk (hbox); have GW270 := bs_ HB hg; have GE270 := bs_ HB hg; have NB268_270 := bm_ BK268 hg; have NB270_268 := bn_ BK268 hg; have NB269_270 := bm_ BK269 hg; have NB270_269 := bn_ BK269 hg; replace BK268 := bb_ BK268 hb; replace BK269 := bb_ BK269 hb; replace HB := bt_ HB hb; clear hb hbox hg; have hnb12 := NB269_268.out; have hnc12 := NB268_269.out; have hnb13 := NB269_270.out; have hnc13 := NB270_269.out; obtain ⟨hcz14_0, hcz14_1, hcz14_2, hfz14_0, hfz14_1, hfz14_2⟩ := ch3_ BK269) | (refine ge_ 26 Try.func71 #[.int .i64 a0, .int .i64 (wrap64 (a2_0 + (ji4)))] ?_ (hargs := by (try simp only [List.map_toArray, List.map_cons, List.map_nil]); first | done | (simp only [hji4]; rfl) | rfl | (simp only [List.length_drop, List.length_take]; rfl)); (with_reducible refine (spec_l01Power.calls k a0 (wrap64 (a2_0 + (ji4))) t271 _ A5.out).mono ?_); rintro e w' ⟨rfl, ⟨nd, rfl⟩⟩; refine ⟨_, rfl, ?_⟩; (try (rw [drewN_self w11]; generalize hq_ : World.drewN w11 _ = w11; have n0_ : Aside0 (w11.heap[gb268]? = some (.cells #[.int .i64 a1_0, .int .i64 a1_1, .int .i64 a1_2, .int .i64 a1_3] 83 (0, 0))) := ⟨by rw [← hq_]; exact (bl_ BK268).out⟩; have n1_ : Aside0 (w11.heap[gb269]? = some (.cells #[.int .i64 a2_0, .int .i64 a2_1, .int .i64 a2_2] 25 (0, 0))) := ⟨by rw [← hq_]; exact (bl_ BK269).out⟩; have n2_ : Aside0 (w11.heap[gb270]? = some (.cells #[.int .i64 0, .int .i64 0, .int .i64 0] 25 (0, 0))) := ⟨by rw [← hq_]; exact (bl_ BK270).out⟩; have n3_ : Aside0 (Below w.heap.size w w11) := ⟨by rw [← hq_]; exact (bw_ HB).out⟩; clear BK268 BK269 BK270 HB hq_; have BK268 := n0_; have BK269 := n1_; have BK270 := n2_; have HB := n3_; clear n0_ n1_ n2_ n3_))) | (refine ge_ 29 Try.func71 #[.int .i64 a0, .int .i64 ji4] ?_ (hargs := by (try simp only [List.map_toArray, List.map_cons, List.map_nil]); first | done | (simp only [hji4]; rfl) | rfl | (simp only [List.length_drop, List.length_take]; rfl)); (with_reducible refine (spec_l01Power.calls k a0 ji4 t272 _ A6.out).mono ?_); rintro e w' ⟨rfl, ⟨nd, rfl⟩⟩; refine ⟨_, rfl, ?_⟩; (try (rw [drewN_self w11]; generalize hq_ : World.drewN w11 _ = w11; have n0_ : Aside0 (w11.heap[gb268]? = some (.cells #[.int .i64 a1_0, .int .i64 a1_1, .int .i64 a1_2, .int .i64 a1_3] 83 (0, 0))) := ⟨by rw [← hq_]; exact (bl_ BK268).out⟩; have n1_ : Aside0 (w11.heap[gb269]? = some (.cells #[.int .i64 a2_0, .int .i64 a2_1, .int .i64 a2_2] 25 (0, 0))) := ⟨by rw [← hq_]; exact (bl_ BK269).out⟩; have n2_ : Aside0 (w11.heap[gb270]? = some (.cells #[.int .i64 0, .int .i64 0, .int .i64 0] 25 (0, 0))) := ⟨by rw [← hq_]; exact (bl_ BK270).out⟩; have n3_ : Aside0 (Below w.heap.size w w11) := ⟨by rw [← hq_]; exact (bw_ HB).out⟩; clear BK268 BK269 BK270 HB hq_; have BK268 := n0_; have BK269 := n1_; have BK270 := n2_; have HB := n3_; clear n0_ n1_ n2_ n3_))))
 replace BK268 := Aside0.mk (blk_drew BK268.out)
 replace BK269 := Aside0.mk (blk_drew BK269.out)
 replace BK270 := Aside0.mk (blk_drew BK270.out)
 replace HB := Aside0.mk (below_drew1 HB.out)
 refine start_ (n := 10) (S := fun w' => w'.cell? ⟨gb269, 0, none⟩ = some (.int .i64 a2_0) ∧ w'.cell? ⟨gb269, 1, none⟩ = some (.int .i64 a2_1) ∧ w'.cell? ⟨gb269, 2, none⟩ = some (.int .i64 a2_2)) (ds := []) (bv_ 10 0) (by kernel_rfl) rfl rfl ⟨cz_ BK269 0, cz_ BK269 1, cz_ BK269 2⟩ (fun hHeld => ?_); refine with_tabW spec_l04Move.tab3 spec_l04Move.bits3 (fun HT_ HW_ => ?_)
 generalize w11.drew = w15 at BK268 BK269 BK270 HB hHeld ⊢
 refine pu_ HT_ 0 (some 30) (bv_ 10 1) ?_
 refine pu_ HT_ 2 (some 32) (bv_ 10 5) ?_
 refine pu_ HT_ 3 (some 33) (bv_ 10 13) ?_
 refine pu_ HT_ 4 (some 34) (bv_ 10 29) ?_
 refine ta_ HT_ HW_ 1 (some 31) (bv_ 10 31) hHeld ?_ (hy := by rintro w' ⟨s0, s1, s2⟩; go_simp; with_reducible rfl)
 refine ta_ HT_ HW_ 5 (some 35) (bv_ 10 63) hHeld ?_ (hy := by rintro w' ⟨s0, s1, s2⟩; go_simp; with_reducible rfl)
 refine pu_ HT_ 6 (some 36) (bv_ 10 127) ?_
 refine one_ (i := 7) (N := some 37) (bv_ 10 255) rfl rfl (one_of HT_.out (by kernel_rfl)) (by decide) (fun K hK => ?_)
 refine goes_ Try.func71 (by kernel_rfl) rfl #[.int .i64 a0, .int .i64 (wrap64 ((ji4) - a2_2))] (by rfl) rfl rfl (by (try simp only [List.map_toArray, List.map_cons, List.map_nil]); first | done | (simp only [hji4]; rfl) | rfl | (simp only [List.length_drop, List.length_take]; rfl)) ?_
 with_reducible refine (spec_l01Power.calls k a0 (wrap64 ((ji4) - a2_2)) t273 _ A7.out).mono ?_
 rintro e w' ⟨rfl, ⟨nd, rfl⟩⟩
 refine ⟨_, rfl, ?_⟩
 refine hK.out _ _ ⟨cz_ BK269 0, cz_ BK269 1, cz_ BK269 2⟩ (fun hHeld => ?_)
 clear hK K
 refine norm_ (a' := ?_) ?_ ?_
 rotate_left
 ·show Act.put _ (some 37) _ = _
  simp only [Act.put, lstS, lstZ, lstC, i64_w, i32_w]
  rfl
 refine pu_ HT_ 8 (some 38) (bv_ 10 511) ?_
 refine pu_ HT_ 9 (some 11) (bv_ 10 1023) ?_
 refine done_ (done_of HT_.out (by kernel_rfl)) ?_
 have hnb16 := NB268_270.out
 have hnc16 := NB270_268.out
 obtain ⟨hcz17_0, hcz17_1, hcz17_2, hcz17_3, hfz17_0, hfz17_1, hfz17_2, hfz17_3⟩ := ch4_ BK268
 go_upto_region 6 with (first | (refine bx_ 12 #[.int .i64 0, .int .i64 0] 81 ?_; intro gb274 hg w18 hbox hb; have BK274 := Aside0.mk (hbox); have GW274 := bs_ HB hg; have GE274 := bs_ HB hg; have NB268_274 := bm_ BK268 hg; have NB274_268 := bn_ BK268 hg; have NB269_274 := bm_ BK269 hg; have NB274_269 := bn_ BK269 hg; have NB270_274 := bm_ BK270 hg; have NB274_270 := bn_ BK270 hg; replace BK268 := bb_ BK268 hb; replace BK269 := bb_ BK269 hb; replace BK270 := bb_ BK270 hb; replace HB := bt_ HB hb; clear hb hbox hg; have hnb19 := NB274_268.out; have hnc19 := NB268_274.out; have hnb20 := NB274_269.out; have hnc20 := NB269_274.out; have hnb21 := NB274_270.out; have hnc21 := NB270_274.out; obtain ⟨hcz22_0, hcz22_1, hfz22_0, hfz22_1⟩ := ch2_ BK274; obtain ⟨hcz23_0, hcz23_1, hcz23_2, hcz23_3, hfz23_0, hfz23_1, hfz23_2, hfz23_3⟩ := ch4_ BK268) | (refine bx_ 13 #[.int .i64 0, .int .i64 0] 81 ?_; intro gb275 hg w24 hbox hb; have BK275 := Aside0.mk (hbox); have GW275 := bs_ HB hg; have GE275 := bs_ HB hg; have NB268_275 := Aside0.mk ((by rw [hg]; exact Nat.ne_of_lt (blk_lt (g := gb268) (o := .cells #[.int .i64 a1_0, .int .i64 a1_1, .int .i64 a1_2, .int .i64 a1_3] 83 (0, 0)) (fl_ BK268 NB268_274).out) : gb268 ≠ gb275)); have NB275_268 := Aside0.mk ((by rw [hg]; exact Nat.ne_of_gt (blk_lt (g := gb268) (o := .cells #[.int .i64 a1_0, .int .i64 a1_1, .int .i64 a1_2, .int .i64 a1_3] 83 (0, 0)) (fl_ BK268 NB268_274).out) : gb275 ≠ gb268)); have NB269_275 := Aside0.mk ((by rw [hg]; exact Nat.ne_of_lt (blk_lt (g := gb269) (o := .cells #[.int .i64 a2_0, .int .i64 a2_1, .int .i64 a2_2] 25 (0, 0)) (fl_ BK269 NB269_274).out) : gb269 ≠ gb275)); have NB275_269 := Aside0.mk ((by rw [hg]; exact Nat.ne_of_gt (blk_lt (g := gb269) (o := .cells #[.int .i64 a2_0, .int .i64 a2_1, .int .i64 a2_2] 25 (0, 0)) (fl_ BK269 NB269_274).out) : gb275 ≠ gb269)); have NB270_275 := Aside0.mk ((by rw [hg]; exact Nat.ne_of_lt (blk_lt (g := gb270) (o := .cells #[.int .i64 0, .int .i64 0, .int .i64 0] 25 (0, 0)) (fl_ BK270 NB270_274).out) : gb270 ≠ gb275)); have NB275_270 := Aside0.mk ((by rw [hg]; exact Nat.ne_of_gt (blk_lt (g := gb270) (o := .cells #[.int .i64 0, .int .i64 0, .int .i64 0] 25 (0, 0)) (fl_ BK270 NB270_274).out) : gb275 ≠ gb270)); have NB274_275 := Aside0.mk ((by rw [hg]; exact Nat.ne_of_lt (blk_lt (g := gb274) (o := .cells #[.int .i64 (wrap64 (a1_0 * t271)), .int .i64 (wrap64 (a1_2 * t271))] 81 (0, 0)) (bp_ BK274).out) : gb274 ≠ gb275)); have NB275_274 := Aside0.mk ((by rw [hg]; exact Nat.ne_of_gt (blk_lt (g := gb274) (o := .cells #[.int .i64 (wrap64 (a1_0 * t271)), .int .i64 (wrap64 (a1_2 * t271))] 81 (0, 0)) (bp_ BK274).out) : gb275 ≠ gb274)); replace BK268 := fb_ BK268 NB268_274 hb; replace BK269 := fb_ BK269 NB269_274 hb; replace BK270 := fb_ BK270 NB270_274 hb; replace BK274 := Aside0.mk (blk_below (g := gb274) (o := .cells #[.int .i64 (wrap64 (a1_0 * t271)), .int .i64 (wrap64 (a1_2 * t271))] 81 (0, 0)) (bp_ BK274).out hb); replace HB := bt_ HB hb; clear hb hbox hg; have hnb25 := NB275_268.out; have hnc25 := NB268_275.out; have hnb26 := NB275_269.out; have hnc26 := NB269_275.out; have hnb27 := NB275_270.out; have hnc27 := NB270_275.out; have hnb28 := NB275_274.out; have hnc28 := NB274_275.out; obtain ⟨hcz29_0, hcz29_1, hfz29_0, hfz29_1⟩ := ch2_ BK275))
 (try simp only [Act.put, lstS, lstZ, lstC])
 go_cut [91] (fun v91 wc => ∃ (kq : Nat) (x91_7 : Bool), v91 = .bool x91_7 ∧ Aside0 (spec_l04Move.j0 kq a0 ji4 x91_7 a1_0 a1_1 a1_2 a1_3 a2_0 a2_1 a2_2 (wrap64 (a1_0 * t271)) (wrap64 (a1_2 * t271)) (wrap64 ((wrap64 (a1_0 * (wrap64 (a2_1 * t273)))) + (wrap64 (a1_1 * t272)))) (wrap64 ((wrap64 (a1_2 * (wrap64 (a2_1 * t273)))) + (wrap64 (a1_3 * t272)))) = some (r1, r2, r3, r4)) ∧ Aside0 (kq ≤ k) ∧ Aside0 (wc.heap[gb268]? = some (.cells #[.int .i64 a1_0, .int .i64 a1_1, .int .i64 a1_2, .int .i64 a1_3] 83 (0, 0))) ∧ Aside0 (wc.heap[gb269]? = some (.cells #[.int .i64 a2_0, .int .i64 a2_1, .int .i64 a2_2] 25 (0, 0))) ∧ Aside0 (wc.heap[gb270]? = some (.cells #[.int .i64 0, .int .i64 0, .int .i64 0] 25 (0, 0))) ∧ Aside0 (wc.heap[gb274]? = some (.cells #[.int .i64 (wrap64 (a1_0 * t271)), .int .i64 (wrap64 (a1_2 * t271))] 81 (0, 0))) ∧ Aside0 (wc.heap[gb275]? = some (.cells #[.int .i64 (wrap64 ((wrap64 (a1_0 * (wrap64 (a2_1 * t273)))) + (wrap64 (a1_1 * t272)))), .int .i64 (wrap64 ((wrap64 (a1_2 * (wrap64 (a2_1 * t273)))) + (wrap64 (a1_3 * t272))))] 81 (0, 0))) ∧ Aside0 (Below w.heap.size w wc))
 case first =>
  have H := HC8.out
  clear HC8
  by_cases c30 : (wrap64 ((wrap64 (a1_2 * (wrap64 (a2_1 * t273)))) + (wrap64 (a1_3 * t272)))) = 0
  ·rw [if_pos c30] at H
   have c30b0 : ((wrap64 ((wrap64 (a1_2 * (wrap64 (a2_1 * t273)))) + (wrap64 (a1_3 * t272)))) == 0) = true := beq_iff_eq.mpr c30
   have c30b1 : ((wrap64 ((wrap64 (a1_2 * (wrap64 (a2_1 * t273)))) + (wrap64 (a1_3 * t272)))) != 0) = false := bne_eq_false_iff_eq.mpr c30
   clear c30
   (first | rw [c30b0] | (simp only [i64_w, i32_w]; rw [c30b0]) | skip)
   have H' := Aside0.mk H
   clear H
   try go_wp2
   have n0_ : Aside0 (((w24.setCell ⟨gb275, 0, none⟩ (.int .i64 (wrap64 ((wrap64 (a1_0 * (wrap64 (a2_1 * t273)))) + (wrap64 (a1_1 * t272)))))).setCell ⟨gb275, 1, none⟩ (.int .i64 (wrap64 ((wrap64 (a1_2 * (wrap64 (a2_1 * t273)))) + (wrap64 (a1_3 * t272)))))).heap[gb268]? = some (.cells #[.int .i64 a1_0, .int .i64 a1_1, .int .i64 a1_2, .int .i64 a1_3] 83 (0, 0))) := fl_ BK268 NB268_275
   have n1_ : Aside0 (((w24.setCell ⟨gb275, 0, none⟩ (.int .i64 (wrap64 ((wrap64 (a1_0 * (wrap64 (a2_1 * t273)))) + (wrap64 (a1_1 * t272)))))).setCell ⟨gb275, 1, none⟩ (.int .i64 (wrap64 ((wrap64 (a1_2 * (wrap64 (a2_1 * t273)))) + (wrap64 (a1_3 * t272)))))).heap[gb269]? = some (.cells #[.int .i64 a2_0, .int .i64 a2_1, .int .i64 a2_2] 25 (0, 0))) := fl_ BK269 NB269_275
   have n2_ : Aside0 (((w24.setCell ⟨gb275, 0, none⟩ (.int .i64 (wrap64 ((wrap64 (a1_0 * (wrap64 (a2_1 * t273)))) + (wrap64 (a1_1 * t272)))))).setCell ⟨gb275, 1, none⟩ (.int .i64 (wrap64 ((wrap64 (a1_2 * (wrap64 (a2_1 * t273)))) + (wrap64 (a1_3 * t272)))))).heap[gb270]? = some (.cells #[.int .i64 0, .int .i64 0, .int .i64 0] 25 (0, 0))) := fl_ BK270 NB270_275
   have n3_ : Aside0 (((w24.setCell ⟨gb275, 0, none⟩ (.int .i64 (wrap64 ((wrap64 (a1_0 * (wrap64 (a2_1 * t273)))) + (wrap64 (a1_1 * t272)))))).setCell ⟨gb275, 1, none⟩ (.int .i64 (wrap64 ((wrap64 (a1_2 * (wrap64 (a2_1 * t273)))) + (wrap64 (a1_3 * t272)))))).heap[gb274]? = some (.cells #[.int .i64 (wrap64 (a1_0 * t271)), .int .i64 (wrap64 (a1_2 * t271))] 81 (0, 0))) := fl_ BK274 NB274_275
   have n4_ : Aside0 (((w24.setCell ⟨gb275, 0, none⟩ (.int .i64 (wrap64 ((wrap64 (a1_0 * (wrap64 (a2_1 * t273)))) + (wrap64 (a1_1 * t272)))))).setCell ⟨gb275, 1, none⟩ (.int .i64 (wrap64 ((wrap64 (a1_2 * (wrap64 (a2_1 * t273)))) + (wrap64 (a1_3 * t272)))))).heap[gb275]? = some (.cells #[.int .i64 (wrap64 ((wrap64 (a1_0 * (wrap64 (a2_1 * t273)))) + (wrap64 (a1_1 * t272)))), .int .i64 (wrap64 ((wrap64 (a1_2 * (wrap64 (a2_1 * t273)))) + (wrap64 (a1_3 * t272))))] 81 (0, 0))) := bp_ BK275
   have n5_ : Aside0 (Below w.heap.size w ((w24.setCell ⟨gb275, 0, none⟩ (.int .i64 (wrap64 ((wrap64 (a1_0 * (wrap64 (a2_1 * t273)))) + (wrap64 (a1_1 * t272)))))).setCell ⟨gb275, 1, none⟩ (.int .i64 (wrap64 ((wrap64 (a1_2 * (wrap64 (a2_1 * t273)))) + (wrap64 (a1_3 * t272))))))) := bw_ HB
   (try clear BK268)
   (try clear BK269)
   (try clear BK270)
   (try clear BK274)
   (try clear BK275)
   (try clear HB)
   generalize ((w24.setCell ⟨gb275, 0, none⟩ (.int .i64 (wrap64 ((wrap64 (a1_0 * (wrap64 (a2_1 * t273)))) + (wrap64 (a1_1 * t272)))))).setCell ⟨gb275, 1, none⟩ (.int .i64 (wrap64 ((wrap64 (a1_2 * (wrap64 (a2_1 * t273)))) + (wrap64 (a1_3 * t272)))))) = w31 at n0_ n1_ n2_ n3_ n4_ n5_ ⊢
   have BK268 := n0_
   have BK269 := n1_
   have BK270 := n2_
   have BK274 := n3_
   have BK275 := n4_
   have HB := n5_
   clear n0_ n1_ n2_ n3_ n4_ n5_
   (try (rw [drewN_self w31]; generalize hq_ : World.drewN w31 _ = w31; have n0_ : Aside0 (w31.heap[gb268]? = some (.cells #[.int .i64 a1_0, .int .i64 a1_1, .int .i64 a1_2, .int .i64 a1_3] 83 (0, 0))) := ⟨by rw [← hq_]; exact (bl_ BK268).out⟩; have n1_ : Aside0 (w31.heap[gb269]? = some (.cells #[.int .i64 a2_0, .int .i64 a2_1, .int .i64 a2_2] 25 (0, 0))) := ⟨by rw [← hq_]; exact (bl_ BK269).out⟩; have n2_ : Aside0 (w31.heap[gb270]? = some (.cells #[.int .i64 0, .int .i64 0, .int .i64 0] 25 (0, 0))) := ⟨by rw [← hq_]; exact (bl_ BK270).out⟩; have n3_ : Aside0 (w31.heap[gb274]? = some (.cells #[.int .i64 (wrap64 (a1_0 * t271)), .int .i64 (wrap64 (a1_2 * t271))] 81 (0, 0))) := ⟨by rw [← hq_]; exact (bl_ BK274).out⟩; have n4_ : Aside0 (w31.heap[gb275]? = some (.cells #[.int .i64 (wrap64 ((wrap64 (a1_0 * (wrap64 (a2_1 * t273)))) + (wrap64 (a1_1 * t272)))), .int .i64 (wrap64 ((wrap64 (a1_2 * (wrap64 (a2_1 * t273)))) + (wrap64 (a1_3 * t272))))] 81 (0, 0))) := ⟨by rw [← hq_]; exact (bl_ BK275).out⟩; have n5_ : Aside0 (Below w.heap.size w w31) := ⟨by rw [← hq_]; exact (bw_ HB).out⟩; clear BK268 BK269 BK270 BK274 BK275 HB hq_; have BK268 := n0_; have BK269 := n1_; have BK270 := n2_; have BK274 := n3_; have BK275 := n4_; have HB := n5_; clear n0_ n1_ n2_ n3_ n4_ n5_))
   replace BK268 := Aside0.mk (blk_drew BK268.out)
   replace BK269 := Aside0.mk (blk_drew BK269.out)
   replace BK270 := Aside0.mk (blk_drew BK270.out)
   replace BK274 := Aside0.mk (blk_drew BK274.out)
   replace BK275 := Aside0.mk (blk_drew BK275.out)
   replace HB := Aside0.mk (below_drew1 HB.out)
   refine start_ (n := 19) (S := fun w' => w'.cell? ⟨gb275, 0, none⟩ = some (.int .i64 (wrap64 ((wrap64 (a1_0 * (wrap64 (a2_1 * t273)))) + (wrap64 (a1_1 * t272))))) ∧ w'.cell? ⟨gb275, 1, none⟩ = some (.int .i64 (wrap64 ((wrap64 (a1_2 * (wrap64 (a2_1 * t273)))) + (wrap64 (a1_3 * t272)))))) (ds := []) (bv_ 19 0) (by kernel_rfl) rfl rfl ⟨cz_ BK275 0, cz_ BK275 1⟩ (fun hHeld => ?_); refine with_tabW spec_l04Move.tab6 spec_l04Move.bits6 (fun HT_ HW_ => ?_)
   generalize w31.drew = w32 at BK268 BK269 BK270 BK274 BK275 HB hHeld ⊢
   refine pu_ HT_ 0 (some 73) (bv_ 19 1) ?_
   refine ta_ HT_ HW_ 1 (some 74) (bv_ 19 3) hHeld ?_ (hy := by rintro w' ⟨s0, s1⟩; go_simp; with_reducible rfl)
   refine pu_ HT_ 2 (some 75) (bv_ 19 7) ?_
   refine pu_ HT_ 3 (some 76) (bv_ 19 15) ?_
   refine pv_ HT_ 4 (some 77) (bv_ 19 31) ?_
   refine pv_ HT_ 5 (some 78) (bv_ 19 63) ?_
   refine pv_ HT_ 6 (some 79) (bv_ 19 127) ?_
   refine pv_ HT_ 7 (some 80) (bv_ 19 255) ?_
   refine pv_ HT_ 8 (some 81) (bv_ 19 511) ?_
   refine pv_ HT_ 9 (some 82) (bv_ 19 1023) ?_
   refine pv_ HT_ 10 (some 83) (bv_ 19 2047) ?_
   refine pv_ HT_ 11 (some 84) (bv_ 19 4095) ?_
   refine pv_ HT_ 12 (some 85) (bv_ 19 8191) ?_
   refine pv_ HT_ 13 (some 86) (bv_ 19 16383) ?_
   refine pv_ HT_ 14 (some 87) (bv_ 19 32767) ?_
   refine pv_ HT_ 15 (some 88) (bv_ 19 65535) ?_
   refine pv_ HT_ 16 (some 89) (bv_ 19 131071) ?_
   refine pv_ HT_ 17 (some 90) (bv_ 19 262143) ?_
   refine pu_ HT_ 18 (some 91) (bv_ 19 524287) ?_
   refine done_ (done_of HT_.out (by kernel_rfl)) ?_
   try go_wp2
   go_meet
   case rel => exact ⟨_, (true), en_, H', ⟨by first | omega | exact Nat.le_refl _⟩, bl_ BK268, bl_ BK269, bl_ BK270, bl_ BK274, bl_ BK275, bw_ HB⟩
  ·rw [if_neg c30] at H
   have c30b0 : ((wrap64 ((wrap64 (a1_2 * (wrap64 (a2_1 * t273)))) + (wrap64 (a1_3 * t272)))) == 0) = false := beq_eq_false_iff_ne.mpr c30
   have c30b1 : ((wrap64 ((wrap64 (a1_2 * (wrap64 (a2_1 * t273)))) + (wrap64 (a1_3 * t272)))) != 0) = true := bne_iff_ne.mpr c30
   (first | rw [c30b0] | (simp only [i64_w, i32_w]; rw [c30b0]) | skip)
   by_cases c33 : (wrap64 (a1_2 * t271)) = 0
   ·rw [if_pos c33] at H
    have c33b0 : ((wrap64 (a1_2 * t271)) == 0) = true := beq_iff_eq.mpr c33
    have c33b1 : ((wrap64 (a1_2 * t271)) != 0) = false := bne_eq_false_iff_eq.mpr c33
    clear c33
    have H' := Aside0.mk H
    clear H
    try go_wp2
    have n0_ : Aside0 (((w24.setCell ⟨gb275, 0, none⟩ (.int .i64 (wrap64 ((wrap64 (a1_0 * (wrap64 (a2_1 * t273)))) + (wrap64 (a1_1 * t272)))))).setCell ⟨gb275, 1, none⟩ (.int .i64 (wrap64 ((wrap64 (a1_2 * (wrap64 (a2_1 * t273)))) + (wrap64 (a1_3 * t272)))))).heap[gb268]? = some (.cells #[.int .i64 a1_0, .int .i64 a1_1, .int .i64 a1_2, .int .i64 a1_3] 83 (0, 0))) := fl_ BK268 NB268_275
    have n1_ : Aside0 (((w24.setCell ⟨gb275, 0, none⟩ (.int .i64 (wrap64 ((wrap64 (a1_0 * (wrap64 (a2_1 * t273)))) + (wrap64 (a1_1 * t272)))))).setCell ⟨gb275, 1, none⟩ (.int .i64 (wrap64 ((wrap64 (a1_2 * (wrap64 (a2_1 * t273)))) + (wrap64 (a1_3 * t272)))))).heap[gb269]? = some (.cells #[.int .i64 a2_0, .int .i64 a2_1, .int .i64 a2_2] 25 (0, 0))) := fl_ BK269 NB269_275
    have n2_ : Aside0 (((w24.setCell ⟨gb275, 0, none⟩ (.int .i64 (wrap64 ((wrap64 (a1_0 * (wrap64 (a2_1 * t273)))) + (wrap64 (a1_1 * t272)))))).setCell ⟨gb275, 1, none⟩ (.int .i64 (wrap64 ((wrap64 (a1_2 * (wrap64 (a2_1 * t273)))) + (wrap64 (a1_3 * t272)))))).heap[gb270]? = some (.cells #[.int .i64 0, .int .i64 0, .int .i64 0] 25 (0, 0))) := fl_ BK270 NB270_275
    have n3_ : Aside0 (((w24.setCell ⟨gb275, 0, none⟩ (.int .i64 (wrap64 ((wrap64 (a1_0 * (wrap64 (a2_1 * t273)))) + (wrap64 (a1_1 * t272)))))).setCell ⟨gb275, 1, none⟩ (.int .i64 (wrap64 ((wrap64 (a1_2 * (wrap64 (a2_1 * t273)))) + (wrap64 (a1_3 * t272)))))).heap[gb274]? = some (.cells #[.int .i64 (wrap64 (a1_0 * t271)), .int .i64 (wrap64 (a1_2 * t271))] 81 (0, 0))) := fl_ BK274 NB274_275
    have n4_ : Aside0 (((w24.setCell ⟨gb275, 0, none⟩ (.int .i64 (wrap64 ((wrap64 (a1_0 * (wrap64 (a2_1 * t273)))) + (wrap64 (a1_1 * t272)))))).setCell ⟨gb275, 1, none⟩ (.int .i64 (wrap64 ((wrap64 (a1_2 * (wrap64 (a2_1 * t273)))) + (wrap64 (a1_3 * t272)))))).heap[gb275]? = some (.cells #[.int .i64 (wrap64 ((wrap64 (a1_0 * (wrap64 (a2_1 * t273)))) + (wrap64 (a1_1 * t272)))), .int .i64 (wrap64 ((wrap64 (a1_2 * (wrap64 (a2_1 * t273)))) + (wrap64 (a1_3 * t272))))] 81 (0, 0))) := bp_ BK275
    have n5_ : Aside0 (Below w.heap.size w ((w24.setCell ⟨gb275, 0, none⟩ (.int .i64 (wrap64 ((wrap64 (a1_0 * (wrap64 (a2_1 * t273)))) + (wrap64 (a1_1 * t272)))))).setCell ⟨gb275, 1, none⟩ (.int .i64 (wrap64 ((wrap64 (a1_2 * (wrap64 (a2_1 * t273)))) + (wrap64 (a1_3 * t272))))))) := bw_ HB
    (try clear BK268)
    (try clear BK269)
    (try clear BK270)
    (try clear BK274)
    (try clear BK275)
    (try clear HB)
    generalize ((w24.setCell ⟨gb275, 0, none⟩ (.int .i64 (wrap64 ((wrap64 (a1_0 * (wrap64 (a2_1 * t273)))) + (wrap64 (a1_1 * t272)))))).setCell ⟨gb275, 1, none⟩ (.int .i64 (wrap64 ((wrap64 (a1_2 * (wrap64 (a2_1 * t273)))) + (wrap64 (a1_3 * t272)))))) = w34 at n0_ n1_ n2_ n3_ n4_ n5_ ⊢
    have BK268 := n0_
    have BK269 := n1_
    have BK270 := n2_
    have BK274 := n3_
    have BK275 := n4_
    have HB := n5_
    clear n0_ n1_ n2_ n3_ n4_ n5_
    (try (rw [drewN_self w34]; generalize hq_ : World.drewN w34 _ = w34; have n0_ : Aside0 (w34.heap[gb268]? = some (.cells #[.int .i64 a1_0, .int .i64 a1_1, .int .i64 a1_2, .int .i64 a1_3] 83 (0, 0))) := ⟨by rw [← hq_]; exact (bl_ BK268).out⟩; have n1_ : Aside0 (w34.heap[gb269]? = some (.cells #[.int .i64 a2_0, .int .i64 a2_1, .int .i64 a2_2] 25 (0, 0))) := ⟨by rw [← hq_]; exact (bl_ BK269).out⟩; have n2_ : Aside0 (w34.heap[gb270]? = some (.cells #[.int .i64 0, .int .i64 0, .int .i64 0] 25 (0, 0))) := ⟨by rw [← hq_]; exact (bl_ BK270).out⟩; have n3_ : Aside0 (w34.heap[gb274]? = some (.cells #[.int .i64 (wrap64 (a1_0 * t271)), .int .i64 (wrap64 (a1_2 * t271))] 81 (0, 0))) := ⟨by rw [← hq_]; exact (bl_ BK274).out⟩; have n4_ : Aside0 (w34.heap[gb275]? = some (.cells #[.int .i64 (wrap64 ((wrap64 (a1_0 * (wrap64 (a2_1 * t273)))) + (wrap64 (a1_1 * t272)))), .int .i64 (wrap64 ((wrap64 (a1_2 * (wrap64 (a2_1 * t273)))) + (wrap64 (a1_3 * t272))))] 81 (0, 0))) := ⟨by rw [← hq_]; exact (bl_ BK275).out⟩; have n5_ : Aside0 (Below w.heap.size w w34) := ⟨by rw [← hq_]; exact (bw_ HB).out⟩; clear BK268 BK269 BK270 BK274 BK275 HB hq_; have BK268 := n0_; have BK269 := n1_; have BK270 := n2_; have BK274 := n3_; have BK275 := n4_; have HB := n5_; clear n0_ n1_ n2_ n3_ n4_ n5_))
    replace BK268 := Aside0.mk (blk_drew BK268.out)
    replace BK269 := Aside0.mk (blk_drew BK269.out)
    replace BK270 := Aside0.mk (blk_drew BK270.out)
    replace BK274 := Aside0.mk (blk_drew BK274.out)
    replace BK275 := Aside0.mk (blk_drew BK275.out)
    replace HB := Aside0.mk (below_drew1 HB.out)
    refine start_ (n := 19) (S := fun w' => w'.cell? ⟨gb275, 0, none⟩ = some (.int .i64 (wrap64 ((wrap64 (a1_0 * (wrap64 (a2_1 * t273)))) + (wrap64 (a1_1 * t272))))) ∧ w'.cell? ⟨gb275, 1, none⟩ = some (.int .i64 (wrap64 ((wrap64 (a1_2 * (wrap64 (a2_1 * t273)))) + (wrap64 (a1_3 * t272))))) ∧ w'.cell? ⟨gb274, 0, none⟩ = some (.int .i64 (wrap64 (a1_0 * t271))) ∧ w'.cell? ⟨gb274, 1, none⟩ = some (.int .i64 (wrap64 (a1_2 * t271)))) (ds := []) (bv_ 19 0) (by kernel_rfl) rfl rfl ⟨cz_ BK275 0, cz_ BK275 1, cz_ BK274 0, cz_ BK274 1⟩ (fun hHeld => ?_); refine with_tabW spec_l04Move.tab6 spec_l04Move.bits6 (fun HT_ HW_ => ?_)
    generalize w34.drew = w35 at BK268 BK269 BK270 BK274 BK275 HB hHeld ⊢
    refine pu_ HT_ 0 (some 73) (bv_ 19 1) ?_
    refine ta_ HT_ HW_ 1 (some 74) (bv_ 19 3) hHeld ?_ (hy := by rintro w' ⟨s0, s1, s2, s3⟩; go_simp; with_reducible rfl)
    refine pu_ HT_ 2 (some 75) (bv_ 19 7) ?_
    refine pu_ HT_ 3 (some 76) (bv_ 19 15) ?_
    refine pu_ HT_ 4 (some 77) (bv_ 19 31) ?_
    refine ta_ HT_ HW_ 5 (some 78) (bv_ 19 63) hHeld ?_ (hy := by rintro w' ⟨s0, s1, s2, s3⟩; go_simp; with_reducible rfl)
    refine pu_ HT_ 6 (some 79) (bv_ 19 127) ?_
    refine pu_ HT_ 7 (some 80) (bv_ 19 255) ?_
    refine pv_ HT_ 8 (some 81) (bv_ 19 511) ?_
    refine pv_ HT_ 9 (some 82) (bv_ 19 1023) ?_
    refine pv_ HT_ 10 (some 83) (bv_ 19 2047) ?_
    refine pv_ HT_ 11 (some 84) (bv_ 19 4095) ?_
    refine pv_ HT_ 12 (some 85) (bv_ 19 8191) ?_
    refine pv_ HT_ 13 (some 86) (bv_ 19 16383) ?_
    refine pv_ HT_ 14 (some 87) (bv_ 19 32767) ?_
    refine pv_ HT_ 15 (some 88) (bv_ 19 65535) ?_
    refine pv_ HT_ 16 (some 89) (bv_ 19 131071) ?_
    refine pu_ HT_ 17 (some 90) (bv_ 19 262143) ?_
    refine pu_ HT_ 18 (some 91) (bv_ 19 524287) ?_
    refine done_ (done_of HT_.out (by kernel_rfl)) ?_
    try go_wp2
    go_meet
    case rel => exact ⟨_, (false), en_, H', ⟨by first | omega | exact Nat.le_refl _⟩, bl_ BK268, bl_ BK269, bl_ BK270, bl_ BK274, bl_ BK275, bw_ HB⟩
   ·rw [if_neg c33] at H
    have c33b0 : ((wrap64 (a1_2 * t271)) == 0) = false := beq_eq_false_iff_ne.mpr c33
    have c33b1 : ((wrap64 (a1_2 * t271)) != 0) = true := bne_iff_ne.mpr c33
    replace H := ob_ H
    obtain ⟨t276, A360, H⟩ := H
    have A36 := Aside0.mk A360
    clear A360
    replace H := ob_ H
    obtain ⟨t277, A370, H⟩ := H
    have A37 := Aside0.mk A370
    clear A370
    have H' := Aside0.mk H
    clear H
    try go_wp2
    have n0_ : Aside0 (((w24.setCell ⟨gb275, 0, none⟩ (.int .i64 (wrap64 ((wrap64 (a1_0 * (wrap64 (a2_1 * t273)))) + (wrap64 (a1_1 * t272)))))).setCell ⟨gb275, 1, none⟩ (.int .i64 (wrap64 ((wrap64 (a1_2 * (wrap64 (a2_1 * t273)))) + (wrap64 (a1_3 * t272)))))).heap[gb268]? = some (.cells #[.int .i64 a1_0, .int .i64 a1_1, .int .i64 a1_2, .int .i64 a1_3] 83 (0, 0))) := fl_ BK268 NB268_275
    have n1_ : Aside0 (((w24.setCell ⟨gb275, 0, none⟩ (.int .i64 (wrap64 ((wrap64 (a1_0 * (wrap64 (a2_1 * t273)))) + (wrap64 (a1_1 * t272)))))).setCell ⟨gb275, 1, none⟩ (.int .i64 (wrap64 ((wrap64 (a1_2 * (wrap64 (a2_1 * t273)))) + (wrap64 (a1_3 * t272)))))).heap[gb269]? = some (.cells #[.int .i64 a2_0, .int .i64 a2_1, .int .i64 a2_2] 25 (0, 0))) := fl_ BK269 NB269_275
    have n2_ : Aside0 (((w24.setCell ⟨gb275, 0, none⟩ (.int .i64 (wrap64 ((wrap64 (a1_0 * (wrap64 (a2_1 * t273)))) + (wrap64 (a1_1 * t272)))))).setCell ⟨gb275, 1, none⟩ (.int .i64 (wrap64 ((wrap64 (a1_2 * (wrap64 (a2_1 * t273)))) + (wrap64 (a1_3 * t272)))))).heap[gb270]? = some (.cells #[.int .i64 0, .int .i64 0, .int .i64 0] 25 (0, 0))) := fl_ BK270 NB270_275
    have n3_ : Aside0 (((w24.setCell ⟨gb275, 0, none⟩ (.int .i64 (wrap64 ((wrap64 (a1_0 * (wrap64 (a2_1 * t273)))) + (wrap64 (a1_1 * t272)))))).setCell ⟨gb275, 1, none⟩ (.int .i64 (wrap64 ((wrap64 (a1_2 * (wrap64 (a2_1 * t273)))) + (wrap64 (a1_3 * t272)))))).heap[gb274]? = some (.cells #[.int .i64 (wrap64 (a1_0 * t271)), .int .i64 (wrap64 (a1_2 * t271))] 81 (0, 0))) := fl_ BK274 NB274_275
    have n4_ : Aside0 (((w24.setCell ⟨gb275, 0, none⟩ (.int .i64 (wrap64 ((wrap64 (a1_0 * (wrap64 (a2_1 * t273)))) + (wrap64 (a1_1 * t272)))))).setCell ⟨gb275, 1, none⟩ (.int .i64 (wrap64 ((wrap64 (a1_2 * (wrap64 (a2_1 * t273)))) + (wrap64 (a1_3 * t272)))))).heap[gb275]? = some (.cells #[.int .i64 (wrap64 ((wrap64 (a1_0 * (wrap64 (a2_1 * t273)))) + (wrap64 (a1_1 * t272)))), .int .i64 (wrap64 ((wrap64 (a1_2 * (wrap64 (a2_1 * t273)))) + (wrap64 (a1_3 * t272))))] 81 (0, 0))) := bp_ BK275
    have n5_ : Aside0 (Below w.heap.size w ((w24.setCell ⟨gb275, 0, none⟩ (.int .i64 (wrap64 ((wrap64 (a1_0 * (wrap64 (a2_1 * t273)))) + (wrap64 (a1_1 * t272)))))).setCell ⟨gb275, 1, none⟩ (.int .i64 (wrap64 ((wrap64 (a1_2 * (wrap64 (a2_1 * t273)))) + (wrap64 (a1_3 * t272))))))) := bw_ HB
    (try clear BK268)
    (try clear BK269)
    (try clear BK270)
    (try clear BK274)
    (try clear BK275)
    (try clear HB)
    generalize ((w24.setCell ⟨gb275, 0, none⟩ (.int .i64 (wrap64 ((wrap64 (a1_0 * (wrap64 (a2_1 * t273)))) + (wrap64 (a1_1 * t272)))))).setCell ⟨gb275, 1, none⟩ (.int .i64 (wrap64 ((wrap64 (a1_2 * (wrap64 (a2_1 * t273)))) + (wrap64 (a1_3 * t272)))))) = w38 at n0_ n1_ n2_ n3_ n4_ n5_ ⊢
    have BK268 := n0_
    have BK269 := n1_
    have BK270 := n2_
    have BK274 := n3_
    have BK275 := n4_
    have HB := n5_
    clear n0_ n1_ n2_ n3_ n4_ n5_
    (try (rw [drewN_self w38]; generalize hq_ : World.drewN w38 _ = w38; have n0_ : Aside0 (w38.heap[gb268]? = some (.cells #[.int .i64 a1_0, .int .i64 a1_1, .int .i64 a1_2, .int .i64 a1_3] 83 (0, 0))) := ⟨by rw [← hq_]; exact (bl_ BK268).out⟩; have n1_ : Aside0 (w38.heap[gb269]? = some (.cells #[.int .i64 a2_0, .int .i64 a2_1, .int .i64 a2_2] 25 (0, 0))) := ⟨by rw [← hq_]; exact (bl_ BK269).out⟩; have n2_ : Aside0 (w38.heap[gb270]? = some (.cells #[.int .i64 0, .int .i64 0, .int .i64 0] 25 (0, 0))) := ⟨by rw [← hq_]; exact (bl_ BK270).out⟩; have n3_ : Aside0 (w38.heap[gb274]? = some (.cells #[.int .i64 (wrap64 (a1_0 * t271)), .int .i64 (wrap64 (a1_2 * t271))] 81 (0, 0))) := ⟨by rw [← hq_]; exact (bl_ BK274).out⟩; have n4_ : Aside0 (w38.heap[gb275]? = some (.cells #[.int .i64 (wrap64 ((wrap64 (a1_0 * (wrap64 (a2_1 * t273)))) + (wrap64 (a1_1 * t272)))), .int .i64 (wrap64 ((wrap64 (a1_2 * (wrap64 (a2_1 * t273)))) + (wrap64 (a1_3 * t272))))] 81 (0, 0))) := ⟨by rw [← hq_]; exact (bl_ BK275).out⟩; have n5_ : Aside0 (Below w.heap.size w w38) := ⟨by rw [← hq_]; exact (bw_ HB).out⟩; clear BK268 BK269 BK270 BK274 BK275 HB hq_; have BK268 := n0_; have BK269 := n1_; have BK270 := n2_; have BK274 := n3_; have BK275 := n4_; have HB := n5_; clear n0_ n1_ n2_ n3_ n4_ n5_))
    replace BK268 := Aside0.mk (blk_drew BK268.out)
    replace BK269 := Aside0.mk (blk_drew BK269.out)
    replace BK270 := Aside0.mk (blk_drew BK270.out)
    replace BK274 := Aside0.mk (blk_drew BK274.out)
    replace BK275 := Aside0.mk (blk_drew BK275.out)
    replace HB := Aside0.mk (below_drew1 HB.out)
    refine start_ (n := 19) (S := fun w' => w'.cell? ⟨gb275, 0, none⟩ = some (.int .i64 (wrap64 ((wrap64 (a1_0 * (wrap64 (a2_1 * t273)))) + (wrap64 (a1_1 * t272))))) ∧ w'.cell? ⟨gb275, 1, none⟩ = some (.int .i64 (wrap64 ((wrap64 (a1_2 * (wrap64 (a2_1 * t273)))) + (wrap64 (a1_3 * t272))))) ∧ w'.cell? ⟨gb274, 0, none⟩ = some (.int .i64 (wrap64 (a1_0 * t271))) ∧ w'.cell? ⟨gb274, 1, none⟩ = some (.int .i64 (wrap64 (a1_2 * t271)))) (ds := []) (bv_ 19 0) (by kernel_rfl) rfl rfl ⟨cz_ BK275 0, cz_ BK275 1, cz_ BK274 0, cz_ BK274 1⟩ (fun hHeld => ?_); refine with_tabW spec_l04Move.tab6 spec_l04Move.bits6 (fun HT_ HW_ => ?_)
    generalize w38.drew = w39 at BK268 BK269 BK270 BK274 BK275 HB hHeld ⊢
    refine pu_ HT_ 0 (some 73) (bv_ 19 1) ?_
    refine ta_ HT_ HW_ 1 (some 74) (bv_ 19 3) hHeld ?_ (hy := by rintro w' ⟨s0, s1, s2, s3⟩; go_simp; with_reducible rfl)
    refine pu_ HT_ 2 (some 75) (bv_ 19 7) ?_
    refine pu_ HT_ 3 (some 76) (bv_ 19 15) ?_
    refine pu_ HT_ 4 (some 77) (bv_ 19 31) ?_
    refine ta_ HT_ HW_ 5 (some 78) (bv_ 19 63) hHeld ?_ (hy := by rintro w' ⟨s0, s1, s2, s3⟩; go_simp; with_reducible rfl)
    refine pu_ HT_ 6 (some 79) (bv_ 19 127) ?_
    refine pu_ HT_ 7 (some 80) (bv_ 19 255) ?_
    refine pu_ HT_ 8 (some 81) (bv_ 19 511) ?_
    refine pu_ HT_ 9 (some 82) (bv_ 19 1023) ?_
    refine pu_ HT_ 12 (some 85) (bv_ 19 5119) ?_
    refine pu_ HT_ 13 (some 86) (bv_ 19 13311) ?_
    refine ta_ HT_ HW_ 10 (some 83) (bv_ 19 14335) hHeld ?_ (hy := by rintro w' ⟨s0, s1, s2, s3⟩; go_simp; with_reducible rfl)
    refine ta_ HT_ HW_ 14 (some 87) (bv_ 19 30719) hHeld ?_ (hy := by rintro w' ⟨s0, s1, s2, s3⟩; go_simp; with_reducible rfl)
    refine one_ (i := 11) (N := some 84) (bv_ 19 32767) rfl rfl (one_of HT_.out (by kernel_rfl)) (by decide) (fun K hK => ?_)
    refine goes_ Try.func78 (by kernel_rfl) rfl #[.int .i64 a0, .int .i64 (wrap64 ((wrap64 (a1_2 * (wrap64 (a2_1 * t273)))) + (wrap64 (a1_3 * t272))))] (by rfl) rfl rfl (by (try simp only [List.map_toArray, List.map_cons, List.map_nil]); first | done | rfl | (simp only [List.length_drop, List.length_take]; rfl)) ?_
    with_reducible refine (spec_l01Val.calls k a0 (wrap64 ((wrap64 (a1_2 * (wrap64 (a2_1 * t273)))) + (wrap64 (a1_3 * t272)))) t276 _ A36.out).mono ?_
    rintro e w' ⟨rfl, ⟨nd, rfl⟩⟩
    refine ⟨_, rfl, ?_⟩
    refine hK.out _ _ ⟨cz_ BK275 0, cz_ BK275 1, cz_ BK274 0, cz_ BK274 1⟩ (fun hHeld => ?_)
    clear hK K
    refine norm_ (a' := ?_) ?_ ?_
    rotate_left
    ·show Act.put _ (some 84) _ = _
     simp only [Act.put, lstS, lstZ, lstC, i64_w, i32_w]
     rfl
    refine one_ (i := 15) (N := some 88) (bv_ 19 65535) rfl rfl (one_of HT_.out (by kernel_rfl)) (by decide) (fun K hK => ?_)
    refine goes_ Try.func78 (by kernel_rfl) rfl #[.int .i64 a0, .int .i64 (wrap64 (a1_2 * t271))] (by rfl) rfl rfl (by (try simp only [List.map_toArray, List.map_cons, List.map_nil]); first | done | rfl | (simp only [List.length_drop, List.length_take]; rfl)) ?_
    with_reducible refine (spec_l01Val.calls k a0 (wrap64 (a1_2 * t271)) t277 _ A37.out).mono ?_
    rintro e w' ⟨rfl, ⟨nd, rfl⟩⟩
    refine ⟨_, rfl, ?_⟩
    refine hK.out _ _ ⟨cz_ BK275 0, cz_ BK275 1, cz_ BK274 0, cz_ BK274 1⟩ (fun hHeld => ?_)
    clear hK K
    refine norm_ (a' := ?_) ?_ ?_
    rotate_left
    ·show Act.put _ (some 88) _ = _
     simp only [Act.put, lstS, lstZ, lstC, i64_w, i32_w]
     rfl
    refine pu_ HT_ 16 (some 89) (bv_ 19 131071) ?_
    refine pu_ HT_ 17 (some 90) (bv_ 19 262143) ?_
    refine pu_ HT_ 18 (some 91) (bv_ 19 524287) ?_
    refine done_ (done_of HT_.out (by kernel_rfl)) ?_
    try go_wp2
    go_meet
    case rel => exact ⟨_, (decide (t276 > t277)), en_, H', ⟨by first | omega | exact Nat.le_refl _⟩, bl_ BK268, bl_ BK269, bl_ BK270, bl_ BK274, bl_ BK275, bw_ HB⟩
 case rest =>
  clear HC8
  try clear c1
  try clear c2
  try clear p2
  try clear c3
  try clear p6
  try clear c7
  try clear c16
  try clear c19
  try clear c20
  try clear c21
  try clear c25
  try clear c26
  try clear c27
  try clear c28
  try clear c30
  try clear c30b0
  try clear c30b1
  try clear c33
  try clear c33b0
  try clear c33b1
  try clear hcz17_0 hcz17_1 hcz17_2 hcz17_3
  try clear hcz22_0 hcz22_1
  try clear hcz23_0 hcz23_1 hcz23_2 hcz23_3
  try clear hcz29_0 hcz29_1
  try clear hfz17_0 hfz17_1 hfz17_2 hfz17_3
  try clear hfz22_0 hfz22_1
  try clear hfz23_0 hfz23_1 hfz23_2 hfz23_3
  try clear hfz29_0 hfz29_1
  obtain ⟨kq, x91_7, rfl, HA, HJ7, BK268, BK269, BK270, BK274, BK275, HB⟩ := hcut
  cases kq with
  | zero => exact absurd HA.out (by simp [spec_l04Move.j0])
  | succ kj7 =>
   have H := HA.out
   clear HA
   simp only [spec_l04Move.j0] at H
   have HC40 := Aside0.mk H
   clear H
   go_upto_if 91 with (fail)
   go_cut [] (fun wc => ∃ (kq : Nat) (x276000_39 : Int) (x276001_39 : Int), Aside0 (spec_l04Move.j1 kq a0 ji4 a1_0 a1_1 a1_2 a1_3 a2_0 a2_1 a2_2 x276000_39 x276001_39 = some (r1, r2, r3, r4)) ∧ Aside0 (kq ≤ kj7) ∧ Aside0 (wc.heap[gb268]? = some (.cells #[.int .i64 a1_0, .int .i64 a1_1, .int .i64 a1_2, .int .i64 a1_3] 83 (0, 0))) ∧ Aside0 (wc.heap[gb269]? = some (.cells #[.int .i64 a2_0, .int .i64 a2_1, .int .i64 a2_2] 25 (0, 0))) ∧ Aside0 (wc.heap[gb270]? = some (.cells #[.int .i64 0, .int .i64 0, .int .i64 0] 25 (0, 0))) ∧ Aside0 (wc.heap[gb274]? = some (.cells #[.int .i64 (wrap64 (a1_0 * t271)), .int .i64 (wrap64 (a1_2 * t271))] 81 (0, 0))) ∧ Aside0 (wc.heap[gb275]? = some (.cells #[.int .i64 x276000_39, .int .i64 x276001_39] 81 (0, 0))) ∧ Aside0 (Below w.heap.size w wc))
   case first =>
    have H := HC40.out
    clear HC40
    by_cases c41 : x91_7 = true
    ·subst c41
     have H1 : (spec_l04Move.j1 kj7 a0 ji4 a1_0 a1_1 a1_2 a1_3 a2_0 a2_1 a2_2 (wrap64 (a1_0 * t271)) (wrap64 (a1_2 * t271))) = some (r1, r2, r3, r4) := by rw [if_pos rfl] at H; exact H
     clear H
     have H := H1
     clear H1
     have H' := Aside0.mk H
     clear H
     have hnb42 := NB274_268.out
     have hnc42 := NB268_274.out
     have hnb43 := NB274_269.out
     have hnc43 := NB269_274.out
     have hnb44 := NB274_270.out
     have hnc44 := NB270_274.out
     have hnb45 := NB274_275.out
     have hnc45 := NB275_274.out
     obtain ⟨hcz46_0, hcz46_1, hfz46_0, hfz46_1⟩ := ch2_ BK274
     have hnb47 := NB275_268.out
     have hnc47 := NB268_275.out
     have hnb48 := NB275_269.out
     have hnc48 := NB269_275.out
     have hnb49 := NB275_270.out
     have hnc49 := NB270_275.out
     obtain ⟨hcz50_0, hcz50_1, hfz50_0, hfz50_1⟩ := ch2_ BK275
     go_wp2
     go_meet
     case rel => exact ⟨_, ((wrap64 (a1_0 * t271))), ((wrap64 (a1_2 * t271))), H', ⟨by have := HJ7.out; first | omega | exact Nat.le_refl _⟩, fl_ BK268 NB268_275, fl_ BK269 NB269_275, fl_ BK270 NB270_275, fl_ BK274 NB274_275, bp_ BK275, bw_ HB⟩
    ·replace c41 := Bool.eq_false_iff.mpr c41
     subst c41
     have H1 : (spec_l04Move.j1 kj7 a0 ji4 a1_0 a1_1 a1_2 a1_3 a2_0 a2_1 a2_2 (wrap64 ((wrap64 (a1_0 * (wrap64 (a2_1 * t273)))) + (wrap64 (a1_1 * t272)))) (wrap64 ((wrap64 (a1_2 * (wrap64 (a2_1 * t273)))) + (wrap64 (a1_3 * t272))))) = some (r1, r2, r3, r4) := by rw [if_neg (show ¬ (false = true) by decide)] at H; exact H
     clear H
     have H := H1
     clear H1
     have H' := Aside0.mk H
     clear H
     go_wp2
     go_meet
     case rel => exact ⟨_, ((wrap64 ((wrap64 (a1_0 * (wrap64 (a2_1 * t273)))) + (wrap64 (a1_1 * t272))))), ((wrap64 ((wrap64 (a1_2 * (wrap64 (a2_1 * t273)))) + (wrap64 (a1_3 * t272))))), H', ⟨by have := HJ7.out; first | omega | exact Nat.le_refl _⟩, bl_ BK268, bl_ BK269, bl_ BK270, bl_ BK274, bl_ BK275, bw_ HB⟩
   case rest =>
    clear HC40
    try clear c1
    try clear c2
    try clear p2
    try clear c3
    try clear c4
    try clear p6
    try clear c7
    try clear c16
    try clear c19
    try clear c20
    try clear c21
    try clear c25
    try clear c26
    try clear c27
    try clear c28
    try clear c30
    try clear c30b0
    try clear c30b1
    try clear c33
    try clear c33b0
    try clear c33b1
    try clear c41
    try clear c42
    try clear c43
    try clear c44
    try clear c45
    try clear c47
    try clear c48
    try clear c49
    try clear hcz17_0 hcz17_1 hcz17_2 hcz17_3
    try clear hcz22_0 hcz22_1
    try clear hcz23_0 hcz23_1 hcz23_2 hcz23_3
    try clear hcz29_0 hcz29_1
    try clear hcz46_0 hcz46_1
    try clear hcz50_0 hcz50_1
    try clear hfz17_0 hfz17_1 hfz17_2 hfz17_3
    try clear hfz22_0 hfz22_1
    try clear hfz23_0 hfz23_1 hfz23_2 hfz23_3
    try clear hfz29_0 hfz29_1
    try clear hfz46_0 hfz46_1
    try clear hfz50_0 hfz50_1
    try clear p2
    try clear p6
    obtain ⟨kq, x276000_39, x276001_39, HA, HJ39, BK268, BK269, BK270, BK274, BK275, HB⟩ := hcut
    cases kq with
    | zero => exact absurd HA.out (by simp [spec_l04Move.j1])
    | succ kj39 =>
     have H := HA.out
     clear HA
     simp only [spec_l04Move.j1] at H
     replace H := ob_ H
     obtain ⟨t278, A510, H⟩ := H
     have A51 := Aside0.mk A510
     clear A510
     replace H := ob_ H
     obtain ⟨t279, A520, H⟩ := H
     have A52 := Aside0.mk A520
     clear A520
     replace H := ob_ H
     obtain ⟨t280, A530, H⟩ := H
     have A53 := Aside0.mk A530
     clear A530
     replace H := ob_ H
     obtain ⟨⟨t281, t282, t283, t284⟩, A540, H⟩ := H
     have A54 := Aside0.mk A540
     clear A540
     simp only [Option.some.injEq, Prod.mk.injEq] at H
     obtain ⟨rfl, rfl, rfl, rfl⟩ := H
     try go_wp2
     replace BK268 := Aside0.mk (blk_drew BK268.out)
     replace BK269 := Aside0.mk (blk_drew BK269.out)
     replace BK270 := Aside0.mk (blk_drew BK270.out)
     replace BK274 := Aside0.mk (blk_drew BK274.out)
     replace BK275 := Aside0.mk (blk_drew BK275.out)
     replace HB := Aside0.mk (below_drew1 HB.out)
     refine start_ (n := 17) (S := fun w' => w'.cell? ⟨gb268, 0, none⟩ = some (.int .i64 a1_0) ∧ w'.cell? ⟨gb268, 1, none⟩ = some (.int .i64 a1_1) ∧ w'.cell? ⟨gb268, 2, none⟩ = some (.int .i64 a1_2) ∧ w'.cell? ⟨gb268, 3, none⟩ = some (.int .i64 a1_3) ∧ w'.cell? ⟨gb269, 0, none⟩ = some (.int .i64 a2_0) ∧ w'.cell? ⟨gb269, 1, none⟩ = some (.int .i64 a2_1) ∧ w'.cell? ⟨gb269, 2, none⟩ = some (.int .i64 a2_2) ∧ w'.cell? ⟨gb275, 0, none⟩ = some (.int .i64 x276000_39) ∧ w'.cell? ⟨gb275, 1, none⟩ = some (.int .i64 x276001_39)) (ds := []) (bv_ 17 0) (by kernel_rfl) rfl rfl ⟨cz_ BK268 0, cz_ BK268 1, cz_ BK268 2, cz_ BK268 3, cz_ BK269 0, cz_ BK269 1, cz_ BK269 2, cz_ BK275 0, cz_ BK275 1⟩ (fun hHeld => ?_); refine with_tabW spec_l04Move.tab8 spec_l04Move.bits8 (fun HT_ HW_ => ?_)
     generalize wc.drew = w55 at BK268 BK269 BK270 BK274 BK275 HB hHeld ⊢
     refine pu_ HT_ 0 (some 93) (bv_ 17 1) ?_
     refine pu_ HT_ 4 (some 97) (bv_ 17 17) ?_
     refine pu_ HT_ 7 (some 100) (bv_ 17 145) ?_
     refine pu_ HT_ 8 (some 101) (bv_ 17 401) ?_
     refine pu_ HT_ 10 (some 103) (bv_ 17 1425) ?_
     refine pu_ HT_ 11 (some 104) (bv_ 17 3473) ?_
     refine ta_ HT_ HW_ 1 (some 94) (bv_ 17 3475) hHeld ?_ (hy := by rintro w' ⟨s0, s1, s2, s3, s4, s5, s6, s7, s8⟩; go_simp; with_reducible rfl)
     refine ta_ HT_ HW_ 5 (some 98) (bv_ 17 3507) hHeld ?_ (hy := by rintro w' ⟨s0, s1, s2, s3, s4, s5, s6, s7, s8⟩; go_simp; with_reducible rfl)
     refine ta_ HT_ HW_ 12 (some 105) (bv_ 17 7603) hHeld ?_ (hy := by rintro w' ⟨s0, s1, s2, s3, s4, s5, s6, s7, s8⟩; go_simp; with_reducible rfl)
     refine one_ (i := 2) (N := some 95) (bv_ 17 7607) rfl rfl (one_of HT_.out (by kernel_rfl)) (by decide) (fun K hK => ?_)
     refine goes_ Try.func79 (by kernel_rfl) rfl #[.agg #[.int .i64 a1_0, .int .i64 a1_1, .int .i64 a1_2, .int .i64 a1_3]] (by rfl) rfl rfl (by (try simp only [List.map_toArray, List.map_cons, List.map_nil]); first | done | rfl | (simp only [List.length_drop, List.length_take]; rfl)) ?_
     with_reducible refine (spec_l04Det.calls a1_0 a1_1 a1_2 a1_3 t278 _ A51.out).mono ?_
     rintro e w56 ⟨rfl, hb⟩
     refine ⟨_, rfl, ?_⟩
     replace BK268 := bb_ BK268 hb
     replace BK269 := bb_ BK269 hb
     replace BK270 := bb_ BK270 hb
     replace BK274 := bb_ BK274 hb
     replace BK275 := bb_ BK275 hb
     replace HB := bt_ HB hb
     (try clear hb)
     (try clear hb2)
     (try clear hk)
     (try clear hi)
     refine hK.out _ _ ⟨cz_ BK268 0, cz_ BK268 1, cz_ BK268 2, cz_ BK268 3, cz_ BK269 0, cz_ BK269 1, cz_ BK269 2, cz_ BK275 0, cz_ BK275 1⟩ (fun hHeld => ?_)
     clear hK K
     refine norm_ (a' := ?_) ?_ ?_
     rotate_left
     ·show Act.put _ (some 95) _ = _
      simp only [Act.put, lstS, lstZ, lstC, i64_w, i32_w]
      rfl
     refine one_ (i := 3) (N := some 96) (bv_ 17 7615) rfl rfl (one_of HT_.out (by kernel_rfl)) (by decide) (fun K hK => ?_)
     refine goes_ Try.func78 (by kernel_rfl) rfl #[.int .i64 a0, .int .i64 t278] (by rfl) rfl rfl (by (try simp only [List.map_toArray, List.map_cons, List.map_nil]); first | done | rfl | (simp only [List.length_drop, List.length_take]; rfl)) ?_
     with_reducible refine (spec_l01Val.calls kj39 a0 t278 t279 _ A52.out).mono ?_
     rintro e w' ⟨rfl, ⟨nd, rfl⟩⟩
     refine ⟨_, rfl, ?_⟩
     refine hK.out _ _ ⟨cz_ BK268 0, cz_ BK268 1, cz_ BK268 2, cz_ BK268 3, cz_ BK269 0, cz_ BK269 1, cz_ BK269 2, cz_ BK275 0, cz_ BK275 1⟩ (fun hHeld => ?_)
     clear hK K
     refine norm_ (a' := ?_) ?_ ?_
     rotate_left
     ·show Act.put _ (some 96) _ = _
      simp only [Act.put, lstS, lstZ, lstC, i64_w, i32_w]
      rfl
     refine pu_ HT_ 6 (some 99) (bv_ 17 7679) ?_
     refine pu_ HT_ 9 (some 102) (bv_ 17 8191) ?_
     refine one_ (i := 13) (N := some 106) (bv_ 17 16383) rfl rfl (one_of HT_.out (by kernel_rfl)) (by decide) (fun K hK => ?_)
     refine goes_ Try.func78 (by kernel_rfl) rfl #[.int .i64 a0, .int .i64 x276001_39] (by rfl) rfl rfl (by (try simp only [List.map_toArray, List.map_cons, List.map_nil]); first | done | rfl | (simp only [List.length_drop, List.length_take]; rfl)) ?_
     with_reducible refine (spec_l01Val.calls kj39 a0 x276001_39 t280 _ A53.out).mono ?_
     rintro e w' ⟨rfl, ⟨nd, rfl⟩⟩
     refine ⟨_, rfl, ?_⟩
     refine hK.out _ _ ⟨cz_ BK268 0, cz_ BK268 1, cz_ BK268 2, cz_ BK268 3, cz_ BK269 0, cz_ BK269 1, cz_ BK269 2, cz_ BK275 0, cz_ BK275 1⟩ (fun hHeld => ?_)
     clear hK K
     refine norm_ (a' := ?_) ?_ ?_
     rotate_left
     ·show Act.put _ (some 106) _ = _
      simp only [Act.put, lstS, lstZ, lstC, i64_w, i32_w]
      rfl
     refine pu_ HT_ 14 (some 107) (bv_ 17 32767) ?_
     refine pu_ HT_ 15 (some 108) (bv_ 17 65535) ?_
     refine pu_ HT_ 16 (some 14) (bv_ 17 131071) ?_
     refine done_ (done_of HT_.out (by kernel_rfl)) ?_
     have hnb57 := NB275_268.out
     have hnc57 := NB268_275.out
     have hnb58 := NB275_269.out
     have hnc58 := NB269_275.out
     have hnb59 := NB275_270.out
     have hnc59 := NB270_275.out
     have hnb60 := NB275_274.out
     have hnc60 := NB274_275.out
     obtain ⟨hcz61_0, hcz61_1, hfz61_0, hfz61_1⟩ := ch2_ BK275
     try go_wp2_with (first | (refine ge_ 115 Try.func70 #[.int .i64 a0, .int .i64 x276000_39, .int .i64 x276001_39, .int .i64 (wrap64 ((wrap64 ((wrap64 (t279 + a2_0)) + (wrap64 (2 * ji4)))) - (wrap64 (2 * t280))))] ?_ (hargs := by (try simp only [List.map_toArray, List.map_cons, List.map_nil]); first | done | (simp only [hji4]; rfl) | rfl | (simp only [List.length_drop, List.length_take]; rfl)); (with_reducible refine (spec_l01Of.calls kj39 a0 x276000_39 x276001_39 (wrap64 ((wrap64 ((wrap64 (t279 + a2_0)) + (wrap64 (2 * ji4)))) - (wrap64 (2 * t280)))) t281 t282 t283 t284 _ A54.out).mono ?_); rintro e w62 ⟨rfl, hb⟩; refine ⟨_, rfl, ?_⟩; replace BK268 := bb_ BK268 hb; replace BK269 := bb_ BK269 hb; replace BK270 := bb_ BK270 hb; replace BK274 := bb_ BK274 hb; replace BK275 := bb_ BK275 hb; replace HB := bt_ HB hb; (try clear hb); (try clear hb2); (try clear hk); (try clear hi); have hnb63 := NB270_268.out; have hnc63 := NB268_270.out; have hnb64 := NB270_269.out; have hnc64 := NB269_270.out; have hnb65 := NB270_274.out; have hnc65 := NB274_270.out; obtain ⟨hcz66_0, hcz66_1, hcz66_2, hfz66_0, hfz66_1, hfz66_2⟩ := ch3_ BK270))
     refine bodyPost_ret (results_ct rfl _ _ gb270 25 #[.int .i64 t281, .int .i64 t282, .int .i64 t283] (0, 0) _ rfl (bp_ BK270).out Try.underlying25 rfl (by kernel_rfl)) rfl ?_
     exact ⟨by first | rfl | (simp [errW_none, errW_some] <;> rfl) | (simp only [← hji4]; first | rfl | (simp [errW_none, errW_some] <;> rfl)) | (simp [*, errW_none, errW_some] <;> rfl), (bw_ HB).out⟩
end Go.Proofs.Ytbldceikdajdlaa.QD
