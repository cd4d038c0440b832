-- Written by a program of this session out of Lean's own print of the loaded program; Lean checks it.
import Derived.Test.YtojpcbbmbnmchaaQCx4
import Derived.Test.YtojpcbbmbnmchaaQCx12
import Derived.Test.YtojpcbbmbnmchaaQCx20
import Derived.Test.YtojpcbbmbnmchaaQCx22
namespace Go.Proofs.Ytojpcbbmbnmchaa.QC
open Go.RowKit Go.Proofs.YtojpcbbmbnmchaaW.PrintWords Go.Proofs.YtojpcbbmbnmchaaW.PrintLast Go.Proofs.YtojpcbbmbnmchaaW.PrintMore
attribute [local go_sem] isSome_setCell max2_int min2_int max_two min_two max_three min_three max_four min_four   -- for this text's walks alone
set_option linter.unusedVariables false
set_option linter.unusedSimpArgs false

/-! ### spec_l10Triangular: function 43 -/
def spec_l10Triangular.f (k : Nat) (a0 : Int) (a1_0 : Int) (a1_1 : Int) (a1_2 : Int) (a1_3 : Int) : Option (Int × Int × Int × Int × Bool) := (spec_l04Move.f k a0 a1_0 a1_1 a1_2 a1_3 0 0 0).bind fun bt187 => (if bt187.2.2.2 = true then ((spec_l01Power.f k a0 (wrap64 (bt187.1 + (mx bt187.2.2.1 (wrap64 (-bt187.1)))))).bind fun t192 => ((spec_l01Power.f k a0 (wrap64 ((mx bt187.2.2.1 (wrap64 (-bt187.1))) - bt187.2.2.1))).bind fun t193 => ((spec_l01Power.f k a0 (mx bt187.2.2.1 (wrap64 (-bt187.1)))).bind fun t194 => ((spec_l04Reduce.f k t192 (wrap64 (bt187.2.1 * t193)) 0 t194).bind fun bt195 => (some (bt195.1, bt195.2.1, bt195.2.2.1, bt195.2.2.2.1, bt195.2.2.2.2)))))) else (some (0, 0, 0, 0, false)))
def spec_l10Triangular.T5 : Bool × List (List Nat × List Nat) := (true, [([], []), ([], []), ([1], [1]), ([], []), ([2, 3], [2, 3]), ([0, 4], [0, 4]), ([], []), ([6], [6]), ([], []), ([], []), ([], []), ([10], [10]), ([9, 11], [9, 11]), ([8, 12, 5], [8, 12]), ([7, 13], [7, 13]), ([5, 14], [5, 14]), ([], []), ([], []), ([16, 17, 13], [16, 17]), ([18], [18]), ([15, 19], [15, 19]), ([20, 18], [20]), ([21], [21]), ([22], [22]), ([22], [22]), ([], []), ([25, 23, 21, 0, 1, 2, 3, 4, 5, 6, 7, 8, 9, 10, 11, 12, 13, 14, 15, 16, 17, 18, 19, 20, 21, 22, 23, 25], [23, 25]), ([24, 26, 0, 1, 2, 3, 4, 5, 6, 7, 8, 9, 10, 11, 12, 13, 14, 15, 16, 17, 18, 19, 20, 21, 22, 23, 24, 25, 26], [24])])
def spec_l10Triangular.B5 : List Nat := [0, 0, 2, 0, 14, 31, 0, 64, 0, 0, 0, 1024, 3584, 7999, 16383, 32767, 0, 0, 212799, 474943, 1048575, 2097151, 4194303, 8388607, 8388607, 0, 50331647, 134217727]
theorem spec_l10Triangular.tab5 : rtab .any (opsOf Try.f43 5) = spec_l10Triangular.T5 := by kernel_rfl
theorem spec_l10Triangular.bits5 : waitsOk spec_l10Triangular.T5.2 spec_l10Triangular.B5 = true := by kernel_rfl
set_option maxHeartbeats 8000000 in
set_option maxRecDepth 100000 in
theorem spec_l10Triangular.calls (k : Nat) (a0 : Int) (a1_0 : Int) (a1_1 : Int) (a1_2 : Int) (a1_3 : Int) (r1 : Int) (r2 : Int) (r3 : Int) (r4 : Int) (r5 : Bool) (w : World) (h : spec_l10Triangular.f k a0 a1_0 a1_1 a1_2 a1_3 = some (r1, r2, r3, r4, r5)) :
  Calls Try.prog 43 #[.int .i64 a0, .agg #[.int .i64 a1_0, .int .i64 a1_1, .int .i64 a1_2, .int .i64 a1_3]] w fun e w' => e = .returned (.tuple #[.agg #[.int .i64 r1, .int .i64 r2, .int .i64 r3, .int .i64 r4], .bool r5]) ∧ Below w.heap.size w w' := by
 have hu33 := Try.underlying33
 have hu28 := Try.underlying28
 have hu22 := Try.underlying22
 have HB := Aside0.mk (Below.refl w.heap.size w)
 have H : ((spec_l04Move.f k a0 a1_0 a1_1 a1_2 a1_3 0 0 0).bind fun bt187 => (if bt187.2.2.2 = true then ((spec_l01Power.f k a0 (wrap64 (bt187.1 + (mx bt187.2.2.1 (wrap64 (-bt187.1)))))).bind fun t192 => ((spec_l01Power.f k a0 (wrap64 ((mx bt187.2.2.1 (wrap64 (-bt187.1))) - bt187.2.2.1))).bind fun t193 => ((spec_l01Power.f k a0 (mx bt187.2.2.1 (wrap64 (-bt187.1)))).bind fun t194 => ((spec_l04Reduce.f k t192 (wrap64 (bt187.2.1 * t193)) 0 t194).bind fun bt195 => (some (bt195.1, bt195.2.1, bt195.2.2.1, bt195.2.2.2.1, bt195.2.2.2.2)))))) else (some (0, 0, 0, 0, false)))) = some (r1, r2, r3, r4, r5) := h
 clear h
 replace H := Option.bind_eq_some_iff.mp H
 obtain ⟨⟨t187, t188, t189, t190⟩, A30, H⟩ := H
 have A3 := Aside0.mk A30
 clear A30
 by_cases c4 : t190 = true
 ·subst c4
  have H1 : ((spec_l01Power.f k a0 (wrap64 (t187 + (mx t189 (wrap64 (-t187)))))).bind fun t192 => ((spec_l01Power.f k a0 (wrap64 ((mx t189 (wrap64 (-t187))) - t189))).bind fun t193 => ((spec_l01Power.f k a0 (mx t189 (wrap64 (-t187)))).bind fun t194 => ((spec_l04Reduce.f k t192 (wrap64 (t188 * t193)) 0 t194).bind fun bt195 => (some (bt195.1, bt195.2.1, bt195.2.2.1, bt195.2.2.2.1, bt195.2.2.2.2)))))) = some (r1, r2, r3, r4, r5) := by rw [if_pos rfl] at H; exact H
  clear H
  have H := H1
  clear H1
  obtain ⟨ji5, hji5⟩ : ∃ j_ : Int, (mx t189 (wrap64 (-t187))) = j_ := ⟨_, rfl⟩
  replace H : ((spec_l01Power.f k a0 (wrap64 (t187 + (ji5)))).bind fun t192 => ((spec_l01Power.f k a0 (wrap64 ((ji5) - t189))).bind fun t193 => ((spec_l01Power.f k a0 (ji5)).bind fun t194 => ((spec_l04Reduce.f k t192 (wrap64 (t188 * t193)) 0 t194).bind fun bt195 => (some (bt195.1, bt195.2.1, bt195.2.2.1, bt195.2.2.2.1, bt195.2.2.2.2)))))) = some (r1, r2, r3, r4, r5) := by first | (rw [hji5] at H; exact H) | (simp only [hji5] at H ⊢; exact H)
  (try rw [hji5] at A3)
  have hji5_k : (if t189 < (IntKind.i64.wrap (-t187)) then (IntKind.i64.wrap (-t187)) else t189) = ji5 := by simp only [i64_w]; exact hji5
  have hji5_ : (if t189 < (wrap64 (-t187)) then (wrap64 (-t187)) else t189) = ji5 := hji5
  replace H := Option.bind_eq_some_iff.mp H
  obtain ⟨t192, A60, H⟩ := H
  have A6 := Aside0.mk A60
  clear A60
  replace H := Option.bind_eq_some_iff.mp H
  obtain ⟨t193, A70, H⟩ := H
  have A7 := Aside0.mk A70
  clear A70
  replace H := Option.bind_eq_some_iff.mp H
  obtain ⟨t194, A80, H⟩ := H
  have A8 := Aside0.mk A80
  clear A80
  replace H := Option.bind_eq_some_iff.mp H
  obtain ⟨⟨t195, t196, t197, t198, t199⟩, A90, H⟩ := H
  have A9 := Aside0.mk A90
  clear A90
  simp only [Option.some.injEq, Prod.mk.injEq] at H
  obtain ⟨rfl, rfl, rfl, rfl, rfl⟩ := H
  go_enter Try.func43, Try.ntmps43
  try go_wp2_with (first | ((with_reducible refine gate_dst (N := 3) rfl ?_); refine bx_ 3 #[.int .i64 a1_0, .int .i64 a1_1, .int .i64 a1_2, .int .i64 a1_3] 33 ?_; intro gb185 hg w10 hbox hb; have BK185 := Aside0.mk (hbox); have GW185 := bs_ HB hg; have GE185 := bs_ HB hg; replace HB := bt_ HB hb; clear hb hbox hg) | ((with_reducible refine gate_dst (N := 4) rfl ?_); refine bx_ 4 #[.int .i64 0, .int .i64 0, .int .i64 0, .int .i64 0] 33 ?_; intro gb186 hg w11 hbox hb; have BK186 := Aside0.mk (hbox); have GW186 := bs_ HB hg; have GE186 := bs_ HB hg; have NB185_186 := bm_ BK185 hg; have NB186_185 := bn_ BK185 hg; replace BK185 := bb_ BK185 hb; replace HB := bt_ HB hb; clear hb hbox hg; have hnb12 := NB185_186.out; have hnc12 := NB186_185.out; have hcz13_0 : w11.cell? ⟨gb185, 0, none⟩ = some (.int .i64 a1_0) := (blk_cell BK185.out 0).trans rfl; have hcz13_1 : w11.cell? ⟨gb185, 1, none⟩ = some (.int .i64 a1_1) := (blk_cell BK185.out 1).trans rfl; have hcz13_2 : w11.cell? ⟨gb185, 2, none⟩ = some (.int .i64 a1_2) := (blk_cell BK185.out 2).trans rfl; have hcz13_3 : w11.cell? ⟨gb185, 3, none⟩ = some (.int .i64 a1_3) := (blk_cell BK185.out 3).trans rfl; have hfz13_0 := blk_frozen BK185.out 0; have hfz13_1 := blk_frozen BK185.out 1; have hfz13_2 := blk_frozen BK185.out 2; have hfz13_3 := blk_frozen BK185.out 3) | ((with_reducible refine gate_callee (f := 52) rfl ?_); refine goesL_ (some 15) rfl rfl Try.func52 (by kernel_rfl) rfl #[.int .i64 a0, .agg #[.int .i64 a1_0, .int .i64 a1_1, .int .i64 a1_2, .int .i64 a1_3], .agg #[.int .i64 0, .int .i64 0, .int .i64 0]] rfl (by (try simp only [List.map_toArray, List.map_cons, List.map_nil]); first | done | rfl | (simp only [List.length_drop, List.length_take]; rfl)) ?_; (with_reducible refine (spec_l04Move.calls k a0 a1_0 a1_1 a1_2 a1_3 0 0 0 t187 t188 t189 true _ A3.out).mono ?_); rintro e w14 ⟨rfl, hb⟩; refine ⟨_, rfl, ?_⟩; replace BK185 := bb_ BK185 hb; replace BK186 := bb_ BK186 hb; replace HB := bt_ HB hb; (try clear hb); (try clear hb2); (try clear hk); (try clear hi)) | ((with_reducible refine gate_dst (N := 6) rfl ?_); refine bx_ 6 #[.int .i64 0, .int .i64 0, .int .i64 0] 28 ?_; intro gb191 hg w15 hbox hb; have BK191 := Aside0.mk (hbox); have GW191 := bs_ HB hg; have GE191 := bs_ HB hg; have NB185_191 := bm_ BK185 hg; have NB191_185 := bn_ BK185 hg; have NB186_191 := bm_ BK186 hg; have NB191_186 := bn_ BK186 hg; replace BK185 := bb_ BK185 hb; replace BK186 := bb_ BK186 hb; replace HB := bt_ HB hb; clear hb hbox hg; have hnb16 := NB191_185.out; have hnc16 := NB185_191.out; have hnb17 := NB191_186.out; have hnc17 := NB186_191.out; have hcz18_0 : w15.cell? ⟨gb191, 0, none⟩ = some (.int .i64 0) := (blk_cell BK191.out 0).trans rfl; have hcz18_1 : w15.cell? ⟨gb191, 1, none⟩ = some (.int .i64 0) := (blk_cell BK191.out 1).trans rfl; have hcz18_2 : w15.cell? ⟨gb191, 2, none⟩ = some (.int .i64 0) := (blk_cell BK191.out 2).trans rfl; have hfz18_0 := blk_frozen BK191.out 0; have hfz18_1 := blk_frozen BK191.out 1; have hfz18_2 := blk_frozen BK191.out 2))
  have n0_ : Aside0 ((((w15.setCell ⟨gb191, 0, none⟩ (.int .i64 t187)).setCell ⟨gb191, 1, none⟩ (.int .i64 t188)).setCell ⟨gb191, 2, none⟩ (.int .i64 t189)).heap[gb185]? = some (.cells #[.int .i64 a1_0, .int .i64 a1_1, .int .i64 a1_2, .int .i64 a1_3] 33 (0, 0))) := ⟨by (with_reducible repeat first | apply blk_drewN | apply blk_drew | apply blk_alloc); refine blk_far ?_ NB185_191.out _; (with_reducible repeat first | apply blk_drewN | apply blk_drew | apply blk_alloc); refine blk_far ?_ NB185_191.out _; (with_reducible repeat first | apply blk_drewN | apply blk_drew | apply blk_alloc); refine blk_far ?_ NB185_191.out _; (with_reducible repeat first | apply blk_drewN | apply blk_drew | apply blk_alloc); exact BK185.out⟩
  have n1_ : Aside0 ((((w15.setCell ⟨gb191, 0, none⟩ (.int .i64 t187)).setCell ⟨gb191, 1, none⟩ (.int .i64 t188)).setCell ⟨gb191, 2, none⟩ (.int .i64 t189)).heap[gb186]? = some (.cells #[.int .i64 0, .int .i64 0, .int .i64 0, .int .i64 0] 33 (0, 0))) := ⟨by (with_reducible repeat first | apply blk_drewN | apply blk_drew | apply blk_alloc); refine blk_far ?_ NB186_191.out _; (with_reducible repeat first | apply blk_drewN | apply blk_drew | apply blk_alloc); refine blk_far ?_ NB186_191.out _; (with_reducible repeat first | apply blk_drewN | apply blk_drew | apply blk_alloc); refine blk_far ?_ NB186_191.out _; (with_reducible repeat first | apply blk_drewN | apply blk_drew | apply blk_alloc); exact BK186.out⟩
  have n2_ : Aside0 ((((w15.setCell ⟨gb191, 0, none⟩ (.int .i64 t187)).setCell ⟨gb191, 1, none⟩ (.int .i64 t188)).setCell ⟨gb191, 2, none⟩ (.int .i64 t189)).heap[gb191]? = some (.cells #[.int .i64 t187, .int .i64 t188, .int .i64 t189] 28 (0, 0))) := ⟨by (with_reducible repeat first | apply blk_drewN | apply blk_drew | apply blk_alloc); refine blk_put (cs := #[.int .i64 t187, .int .i64 t188, .int .i64 0]) ?_ 2 _ rfl; (with_reducible repeat first | apply blk_drewN | apply blk_drew | apply blk_alloc); refine blk_put (cs := #[.int .i64 t187, .int .i64 0, .int .i64 0]) ?_ 1 _ rfl; (with_reducible repeat first | apply blk_drewN | apply blk_drew | apply blk_alloc); refine blk_put (cs := #[.int .i64 0, .int .i64 0, .int .i64 0]) ?_ 0 _ rfl; (with_reducible repeat first | apply blk_drewN | apply blk_drew | apply blk_alloc); exact BK191.out⟩
  have n3_ : Aside0 (Below w.heap.size w (((w15.setCell ⟨gb191, 0, none⟩ (.int .i64 t187)).setCell ⟨gb191, 1, none⟩ (.int .i64 t188)).setCell ⟨gb191, 2, none⟩ (.int .i64 t189))) := bw_ HB
  (try clear BK185)
  (try clear BK186)
  (try clear BK191)
  (try clear HB)
  generalize (((w15.setCell ⟨gb191, 0, none⟩ (.int .i64 t187)).setCell ⟨gb191, 1, none⟩ (.int .i64 t188)).setCell ⟨gb191, 2, none⟩ (.int .i64 t189)) = w19 at n0_ n1_ n2_ n3_ ⊢
  have BK185 := n0_
  have BK186 := n1_
  have BK191 := n2_
  have HB := n3_
  clear n0_ n1_ n2_ n3_
  replace BK185 := Aside0.mk (blk_drew BK185.out)
  replace BK186 := Aside0.mk (blk_drew BK186.out)
  replace BK191 := Aside0.mk (blk_drew BK191.out)
  replace HB := Aside0.mk (below_drew1 HB.out)
  refine start_ (n := 28) (S := fun w' => w'.cell? ⟨gb191, 0, none⟩ = some (.int .i64 t187) ∧ w'.cell? ⟨gb191, 1, none⟩ = some (.int .i64 t188) ∧ w'.cell? ⟨gb191, 2, none⟩ = some (.int .i64 t189)) (ds := []) #[false, false, false, false, false, false, false, false, false, false, false, false, false, false, false, false, false, false, false, false, false, false, false, false, false, false, false, false] (by kernel_rfl) rfl rfl ⟨(blk_cell BK191.out 0).trans rfl, (blk_cell BK191.out 1).trans rfl, (blk_cell BK191.out 2).trans rfl⟩ (fun hHeld => ?_); refine with_tabW spec_l10Triangular.tab5 spec_l10Triangular.bits5 (fun HT_ HW_ => ?_)
  generalize w19.drew = w20 at BK185 BK186 BK191 HB hHeld ⊢
  refine pu_ HT_ 0 (some 28) #[true, false, false, false, false, false, false, false, false, false, false, false, false, false, false, false, false, false, false, false, false, false, false, false, false, false, false, false] ?_
  refine pu_ HT_ 1 (some 29) #[true, true, false, false, false, false, false, false, false, false, false, false, false, false, false, false, false, false, false, false, false, false, false, false, false, false, false, false] ?_
  refine pu_ HT_ 3 (some 31) #[true, true, false, true, false, false, false, false, false, false, false, false, false, false, false, false, false, false, false, false, false, false, false, false, false, false, false, false] ?_
  refine pu_ HT_ 6 (some 34) #[true, true, false, true, false, false, true, false, false, false, false, false, false, false, false, false, false, false, false, false, false, false, false, false, false, false, false, false] ?_
  refine pu_ HT_ 8 (some 36) #[true, true, false, true, false, false, true, false, true, false, false, false, false, false, false, false, false, false, false, false, false, false, false, false, false, false, false, false] ?_
  refine pu_ HT_ 9 (some 37) #[true, true, false, true, false, false, true, false, true, true, false, false, false, false, false, false, false, false, false, false, false, false, false, false, false, false, false, false] ?_
  refine pu_ HT_ 10 (some 38) #[true, true, false, true, false, false, true, false, true, true, true, false, false, false, false, false, false, false, false, false, false, false, false, false, false, false, false, false] ?_
  refine pu_ HT_ 16 (some 44) #[true, true, false, true, false, false, true, false, true, true, true, false, false, false, false, false, true, false, false, false, false, false, false, false, false, false, false, false] ?_
  refine pu_ HT_ 17 (some 45) #[true, true, false, true, false, false, true, false, true, true, true, false, false, false, false, false, true, true, false, false, false, false, false, false, false, false, false, false] ?_
  refine ta_ HT_ HW_ 2 (some 30) #[true, true, true, true, false, false, true, false, true, true, true, false, false, false, false, false, true, true, false, false, false, false, false, false, false, false, false, false] hHeld ?_ (hy := by rintro w' ⟨s0, s1, s2⟩; go_simp; with_reducible rfl)
  refine pu_ HT_ 4 (some 32) #[true, true, true, true, true, false, true, false, true, true, true, false, false, false, false, false, true, true, false, false, false, false, false, false, false, false, false, false] ?_
  refine ta_ HT_ HW_ 7 (some 35) #[true, true, true, true, true, false, true, true, true, true, true, false, false, false, false, false, true, true, false, false, false, false, false, false, false, false, false, false] hHeld ?_ (hy := by rintro w' ⟨s0, s1, s2⟩; go_simp; with_reducible rfl)
  refine ta_ HT_ HW_ 11 (some 39) #[true, true, true, true, true, false, true, true, true, true, true, true, false, false, false, false, true, true, false, false, false, false, false, false, false, false, false, false] hHeld ?_ (hy := by rintro w' ⟨s0, s1, s2⟩; go_simp; with_reducible rfl)
  refine pu_ HT_ 12 (some 40) #[true, true, true, true, true, false, true, true, true, true, true, true, true, false, false, false, true, true, false, false, false, false, false, false, false, false, false, false] ?_
  refine join_ (σ := Nat) 2 #[true, true, true, true, true, true, true, true, true, true, true, true, true, true, true, true, true, true, true, true, true, true, true, true, true, true, false, false] (fun s_ => [(33, .int .i64 t192), (41, .int .i64 t193), (46, .int .i64 t194), (49, .tuple #[.agg #[.int .i64 t195, .int .i64 t196, .int .i64 t197, .int .i64 t198], .bool t199]), (9, .pointer (some ⟨s_, 0, none⟩)), (42, .int .i64 (wrap64 (t188 * t193))), (43, .agg #[.int .i64 t192, .int .i64 (wrap64 (t188 * t193))]), (47, .agg #[.int .i64 0, .int .i64 t194]), (48, .agg #[.int .i64 t192, .int .i64 (wrap64 (t188 * t193)), .int .i64 0, .int .i64 t194]), (27, .tuple #[.agg #[.int .i64 t195, .int .i64 t196, .int .i64 t197, .int .i64 t198], .bool t199]), (50, .agg #[.int .i64 t195, .int .i64 t196, .int .i64 t197, .int .i64 t198]), (51, .bool t199)]) (fun s_ w' => (w'.cell? ⟨gb191, 0, none⟩ = some (.int .i64 t187) ∧ w'.cell? ⟨gb191, 1, none⟩ = some (.int .i64 t188) ∧ w'.cell? ⟨gb191, 2, none⟩ = some (.int .i64 t189)) ∧ (w'.heap[gb185]? = some (.cells #[.int .i64 a1_0, .int .i64 a1_1, .int .i64 a1_2, .int .i64 a1_3] 33 (0, 0))) ∧ (w'.heap[gb186]? = some (.cells #[.int .i64 0, .int .i64 0, .int .i64 0, .int .i64 0] 33 (0, 0))) ∧ (w'.heap[gb191]? = some (.cells #[.int .i64 t187, .int .i64 t188, .int .i64 t189] 28 (0, 0))) ∧ (w'.heap[s_]? = some (.cells #[.int .i64 0, .int .i64 0, .int .i64 0, .int .i64 0] 33 (0, 0))) ∧ (w.heap.size ≤ s_) ∧ (w.heap.size ≤ s_) ∧ (gb185 ≠ s_) ∧ (s_ ≠ gb185) ∧ (gb186 ≠ s_) ∧ (s_ ≠ gb186) ∧ (gb191 ≠ s_) ∧ (s_ ≠ gb191) ∧ (Below w.heap.size w w')) ?_ ?_
  rotate_left
  ·intro hJ5_13_18_21_25
   refine join_ (σ := Unit) 3 #[true, true, true, true, true, true, true, true, true, true, true, true, true, true, true, true, true, true, true, true, true, true, true, true, true, false, false, false] (fun s_ => [(33, .int .i64 t192), (41, .int .i64 t193), (46, .int .i64 t194), (49, .tuple #[.agg #[.int .i64 t195, .int .i64 t196, .int .i64 t197, .int .i64 t198], .bool t199]), (42, .int .i64 (wrap64 (t188 * t193))), (43, .agg #[.int .i64 t192, .int .i64 (wrap64 (t188 * t193))]), (47, .agg #[.int .i64 0, .int .i64 t194]), (48, .agg #[.int .i64 t192, .int .i64 (wrap64 (t188 * t193)), .int .i64 0, .int .i64 t194]), (27, .tuple #[.agg #[.int .i64 t195, .int .i64 t196, .int .i64 t197, .int .i64 t198], .bool t199]), (50, .agg #[.int .i64 t195, .int .i64 t196, .int .i64 t197, .int .i64 t198]), (51, .bool t199)]) (fun s_ w' => (w'.cell? ⟨gb191, 0, none⟩ = some (.int .i64 t187) ∧ w'.cell? ⟨gb191, 1, none⟩ = some (.int .i64 t188) ∧ w'.cell? ⟨gb191, 2, none⟩ = some (.int .i64 t189)) ∧ (w'.heap[gb185]? = some (.cells #[.int .i64 a1_0, .int .i64 a1_1, .int .i64 a1_2, .int .i64 a1_3] 33 (0, 0))) ∧ (w'.heap[gb186]? = some (.cells #[.int .i64 0, .int .i64 0, .int .i64 0, .int .i64 0] 33 (0, 0))) ∧ (w'.heap[gb191]? = some (.cells #[.int .i64 t187, .int .i64 t188, .int .i64 t189] 28 (0, 0))) ∧ (Below w.heap.size w w')) ?_ ?_
   rotate_left
   ·intro hJ5_13_18_21
    refine join_ (σ := Nat) 6 #[true, true, true, true, true, true, true, true, true, true, true, true, true, true, true, true, true, true, true, true, true, false, false, false, false, true, false, false] (fun s_ => [(33, .int .i64 t192), (41, .int .i64 t193), (46, .int .i64 t194), (9, .pointer (some ⟨s_, 0, none⟩)), (42, .int .i64 (wrap64 (t188 * t193))), (43, .agg #[.int .i64 t192, .int .i64 (wrap64 (t188 * t193))]), (47, .agg #[.int .i64 0, .int .i64 t194]), (48, .agg #[.int .i64 t192, .int .i64 (wrap64 (t188 * t193)), .int .i64 0, .int .i64 t194])]) (fun s_ w' => (w'.cell? ⟨gb191, 0, none⟩ = some (.int .i64 t187) ∧ w'.cell? ⟨gb191, 1, none⟩ = some (.int .i64 t188) ∧ w'.cell? ⟨gb191, 2, none⟩ = some (.int .i64 t189)) ∧ (w'.heap[gb185]? = some (.cells #[.int .i64 a1_0, .int .i64 a1_1, .int .i64 a1_2, .int .i64 a1_3] 33 (0, 0))) ∧ (w'.heap[gb186]? = some (.cells #[.int .i64 0, .int .i64 0, .int .i64 0, .int .i64 0] 33 (0, 0))) ∧ (w'.heap[gb191]? = some (.cells #[.int .i64 t187, .int .i64 t188, .int .i64 t189] 28 (0, 0))) ∧ (w'.heap[s_]? = some (.cells #[.int .i64 0, .int .i64 0, .int .i64 0, .int .i64 0] 33 (0, 0))) ∧ (w.heap.size ≤ s_) ∧ (w.heap.size ≤ s_) ∧ (gb185 ≠ s_) ∧ (s_ ≠ gb185) ∧ (gb186 ≠ s_) ∧ (s_ ≠ gb186) ∧ (gb191 ≠ s_) ∧ (s_ ≠ gb191) ∧ (Below w.heap.size w w')) ?_ ?_
    rotate_left
    ·intro hJ5_13_18_25
     refine join_ (σ := Unit) 7 #[true, true, true, true, true, true, true, true, true, true, true, true, true, true, true, true, true, true, true, true, true, false, false, false, false, false, false, false] (fun s_ => [(33, .int .i64 t192), (41, .int .i64 t193), (46, .int .i64 t194), (42, .int .i64 (wrap64 (t188 * t193))), (43, .agg #[.int .i64 t192, .int .i64 (wrap64 (t188 * t193))]), (47, .agg #[.int .i64 0, .int .i64 t194]), (48, .agg #[.int .i64 t192, .int .i64 (wrap64 (t188 * t193)), .int .i64 0, .int .i64 t194])]) (fun s_ w' => (w'.cell? ⟨gb191, 0, none⟩ = some (.int .i64 t187) ∧ w'.cell? ⟨gb191, 1, none⟩ = some (.int .i64 t188) ∧ w'.cell? ⟨gb191, 2, none⟩ = some (.int .i64 t189)) ∧ (w'.heap[gb185]? = some (.cells #[.int .i64 a1_0, .int .i64 a1_1, .int .i64 a1_2, .int .i64 a1_3] 33 (0, 0))) ∧ (w'.heap[gb186]? = some (.cells #[.int .i64 0, .int .i64 0, .int .i64 0, .int .i64 0] 33 (0, 0))) ∧ (w'.heap[gb191]? = some (.cells #[.int .i64 t187, .int .i64 t188, .int .i64 t189] 28 (0, 0))) ∧ (Below w.heap.size w w')) ?_ ?_
     rotate_left
     ·intro hJ5_13_18
      refine join_ (σ := Nat) 9 #[true, true, true, true, true, true, true, true, true, true, true, true, true, true, true, true, true, true, false, false, false, false, false, false, false, true, false, false] (fun s_ => [(33, .int .i64 t192), (41, .int .i64 t193), (9, .pointer (some ⟨s_, 0, none⟩)), (42, .int .i64 (wrap64 (t188 * t193))), (43, .agg #[.int .i64 t192, .int .i64 (wrap64 (t188 * t193))])]) (fun s_ w' => (w'.cell? ⟨gb191, 0, none⟩ = some (.int .i64 t187) ∧ w'.cell? ⟨gb191, 1, none⟩ = some (.int .i64 t188) ∧ w'.cell? ⟨gb191, 2, none⟩ = some (.int .i64 t189)) ∧ (w'.heap[gb185]? = some (.cells #[.int .i64 a1_0, .int .i64 a1_1, .int .i64 a1_2, .int .i64 a1_3] 33 (0, 0))) ∧ (w'.heap[gb186]? = some (.cells #[.int .i64 0, .int .i64 0, .int .i64 0, .int .i64 0] 33 (0, 0))) ∧ (w'.heap[gb191]? = some (.cells #[.int .i64 t187, .int .i64 t188, .int .i64 t189] 28 (0, 0))) ∧ (w'.heap[s_]? = some (.cells #[.int .i64 0, .int .i64 0, .int .i64 0, .int .i64 0] 33 (0, 0))) ∧ (w.heap.size ≤ s_) ∧ (w.heap.size ≤ s_) ∧ (gb185 ≠ s_) ∧ (s_ ≠ gb185) ∧ (gb186 ≠ s_) ∧ (s_ ≠ gb186) ∧ (gb191 ≠ s_) ∧ (s_ ≠ gb191) ∧ (Below w.heap.size w w')) ?_ ?_
      rotate_left
      ·intro hJ5_13_25
       refine join_ (σ := Unit) 10 #[true, true, true, true, true, true, true, true, true, true, true, true, true, true, true, true, true, true, false, false, false, false, false, false, false, false, false, false] (fun s_ => [(33, .int .i64 t192), (41, .int .i64 t193), (42, .int .i64 (wrap64 (t188 * t193))), (43, .agg #[.int .i64 t192, .int .i64 (wrap64 (t188 * t193))])]) (fun s_ w' => (w'.cell? ⟨gb191, 0, none⟩ = some (.int .i64 t187) ∧ w'.cell? ⟨gb191, 1, none⟩ = some (.int .i64 t188) ∧ w'.cell? ⟨gb191, 2, none⟩ = some (.int .i64 t189)) ∧ (w'.heap[gb185]? = some (.cells #[.int .i64 a1_0, .int .i64 a1_1, .int .i64 a1_2, .int .i64 a1_3] 33 (0, 0))) ∧ (w'.heap[gb186]? = some (.cells #[.int .i64 0, .int .i64 0, .int .i64 0, .int .i64 0] 33 (0, 0))) ∧ (w'.heap[gb191]? = some (.cells #[.int .i64 t187, .int .i64 t188, .int .i64 t189] 28 (0, 0))) ∧ (Below w.heap.size w w')) ?_ ?_
       rotate_left
       ·intro hJ5_13
        refine join_ (σ := Nat) 12 #[true, true, true, true, true, true, true, true, true, true, true, true, true, false, false, false, true, true, false, false, false, false, false, false, false, true, false, false] (fun s_ => [(33, .int .i64 t192), (9, .pointer (some ⟨s_, 0, none⟩))]) (fun s_ w' => (w'.cell? ⟨gb191, 0, none⟩ = some (.int .i64 t187) ∧ w'.cell? ⟨gb191, 1, none⟩ = some (.int .i64 t188) ∧ w'.cell? ⟨gb191, 2, none⟩ = some (.int .i64 t189)) ∧ (w'.heap[gb185]? = some (.cells #[.int .i64 a1_0, .int .i64 a1_1, .int .i64 a1_2, .int .i64 a1_3] 33 (0, 0))) ∧ (w'.heap[gb186]? = some (.cells #[.int .i64 0, .int .i64 0, .int .i64 0, .int .i64 0] 33 (0, 0))) ∧ (w'.heap[gb191]? = some (.cells #[.int .i64 t187, .int .i64 t188, .int .i64 t189] 28 (0, 0))) ∧ (w'.heap[s_]? = some (.cells #[.int .i64 0, .int .i64 0, .int .i64 0, .int .i64 0] 33 (0, 0))) ∧ (w.heap.size ≤ s_) ∧ (w.heap.size ≤ s_) ∧ (gb185 ≠ s_) ∧ (s_ ≠ gb185) ∧ (gb186 ≠ s_) ∧ (s_ ≠ gb186) ∧ (gb191 ≠ s_) ∧ (s_ ≠ gb191) ∧ (Below w.heap.size w w')) ?_ ?_
        rotate_left
        ·intro hJ5_25
         refine join_ (σ := Unit) 13 #[true, true, true, true, true, true, true, true, true, true, true, true, true, false, false, false, true, true, false, false, false, false, false, false, false, false, false, false] (fun s_ => [(33, .int .i64 t192)]) (fun s_ w' => (w'.cell? ⟨gb191, 0, none⟩ = some (.int .i64 t187) ∧ w'.cell? ⟨gb191, 1, none⟩ = some (.int .i64 t188) ∧ w'.cell? ⟨gb191, 2, none⟩ = some (.int .i64 t189)) ∧ (w'.heap[gb185]? = some (.cells #[.int .i64 a1_0, .int .i64 a1_1, .int .i64 a1_2, .int .i64 a1_3] 33 (0, 0))) ∧ (w'.heap[gb186]? = some (.cells #[.int .i64 0, .int .i64 0, .int .i64 0, .int .i64 0] 33 (0, 0))) ∧ (w'.heap[gb191]? = some (.cells #[.int .i64 t187, .int .i64 t188, .int .i64 t189] 28 (0, 0))) ∧ (Below w.heap.size w w')) ?_ ?_
         rotate_left
         ·intro hJ5
          refine join_ (σ := Nat) 13 #[true, true, true, true, true, false, true, true, true, true, true, true, true, false, false, false, true, true, false, false, false, false, false, false, false, true, false, false] (fun s_ => [(9, .pointer (some ⟨s_, 0, none⟩))]) (fun s_ w' => (w'.cell? ⟨gb191, 0, none⟩ = some (.int .i64 t187) ∧ w'.cell? ⟨gb191, 1, none⟩ = some (.int .i64 t188) ∧ w'.cell? ⟨gb191, 2, none⟩ = some (.int .i64 t189)) ∧ (w'.heap[gb185]? = some (.cells #[.int .i64 a1_0, .int .i64 a1_1, .int .i64 a1_2, .int .i64 a1_3] 33 (0, 0))) ∧ (w'.heap[gb186]? = some (.cells #[.int .i64 0, .int .i64 0, .int .i64 0, .int .i64 0] 33 (0, 0))) ∧ (w'.heap[gb191]? = some (.cells #[.int .i64 t187, .int .i64 t188, .int .i64 t189] 28 (0, 0))) ∧ (w'.heap[s_]? = some (.cells #[.int .i64 0, .int .i64 0, .int .i64 0, .int .i64 0] 33 (0, 0))) ∧ (w.heap.size ≤ s_) ∧ (w.heap.size ≤ s_) ∧ (gb185 ≠ s_) ∧ (s_ ≠ gb185) ∧ (gb186 ≠ s_) ∧ (s_ ≠ gb186) ∧ (gb191 ≠ s_) ∧ (s_ ≠ gb191) ∧ (Below w.heap.size w w')) ?_ ?_
          rotate_left
          ·intro hJ25
           refine two_ (i := 5) (j := 25) (Ni := some 33) (Nj := some 9) #[true, true, true, true, true, true, true, true, true, true, true, true, true, false, false, false, true, true, false, false, false, false, false, false, false, false, false, false] #[true, true, true, true, true, false, true, true, true, true, true, true, true, false, false, false, true, true, false, false, false, false, false, false, false, true, false, false] rfl rfl rfl rfl (two_of HT_.out (by kernel_rfl)) (by decide) (by decide) (fun K hK => ?_) (fun K hK => ?_)
           ·skip
            refine goes_ Try.func72 (by kernel_rfl) rfl #[.int .i64 a0, .int .i64 (wrap64 (t187 + (ji5)))] (by rfl) rfl rfl (by (try simp only [List.map_toArray, List.map_cons, List.map_nil]); first | done | (simp only [hji5]; rfl) | rfl | (simp only [List.length_drop, List.length_take]; rfl)) ?_
            with_reducible refine (spec_l01Power.calls k a0 (wrap64 (t187 + (ji5))) t192 _ A6.out).mono ?_
            rintro e w' ⟨rfl, ⟨nd, rfl⟩⟩
            refine ⟨_, rfl, ?_⟩
            refine hK.out _ _ ⟨(blk_cell BK191.out 0).trans rfl, (blk_cell BK191.out 1).trans rfl, (blk_cell BK191.out 2).trans rfl⟩ (fun hHeld => ?_)
            clear hK K
            refine norm_ (a' := ?_) ?_ ?_
            rotate_left
            ·show Act.put _ (some 33) _ = _
             simp only [Act.put, lstS, lstZ, lstC, i64_w, i32_w]
             rfl
            exact norm_ (by first | (simp only [putAll, Act.put, lstS, lstZ, lstC]; done) | (simp only [putAll, Act.put, lstS, lstZ, lstC]; rfl)) (hJ5 () _ ⟨hHeld, (bl_ BK185).out, (bl_ BK186).out, (bl_ BK191).out, (bw_ HB).out⟩)
           ·skip
            refine box_step ?hg (N := 9) ?hd (cs := #[.int .i64 0, .int .i64 0, .int .i64 0, .int .i64 0]) (t := 33) ?hr ?_; (case hd => rfl); (case hg => rfl); (case hr => first | (go_simp; done) | (go_simp; rfl))
            intro gb200 hg w21 hbox hb
            have BK200 := Aside0.mk (hbox)
            have GW200 := bs_ HB hg
            have GE200 := bs_ HB hg
            have NB185_200 := bm_ BK185 hg
            have NB200_185 := bn_ BK185 hg
            have NB186_200 := bm_ BK186 hg
            have NB200_186 := bn_ BK186 hg
            have NB191_200 := bm_ BK191 hg
            have NB200_191 := bn_ BK191 hg
            replace BK185 := bb_ BK185 hb
            replace BK186 := bb_ BK186 hb
            replace BK191 := bb_ BK191 hb
            replace HB := bt_ HB hb
            clear hb hbox hg
            refine hK.out _ _ ⟨(blk_cell BK191.out 0).trans rfl, (blk_cell BK191.out 1).trans rfl, (blk_cell BK191.out 2).trans rfl⟩ (fun hHeld => ?_)
            clear hK K
            refine norm_ (a' := ?_) ?_ ?_
            rotate_left
            ·show Act.put _ (some 9) _ = _
             simp only [Act.put, lstS, lstZ, lstC, i64_w, i32_w]
             rfl
            exact norm_ (by first | (simp only [putAll, Act.put, lstS, lstZ, lstC]; done) | (simp only [putAll, Act.put, lstS, lstZ, lstC]; rfl)) (hJ25 (gb200) _ ⟨hHeld, (bl_ BK185).out, (bl_ BK186).out, (bl_ BK191).out, (bl_ BK200).out, GW200.out, GE200.out, NB185_200.out, NB200_185.out, NB186_200.out, NB200_186.out, NB191_200.out, NB200_191.out, (bw_ HB).out⟩)
          ·skip
           rintro gb200 w22 ⟨hS_, h0_, h1_, h2_, h3_, h4_, h5_, h6_, h7_, h8_, h9_, h10_, h11_, h12_⟩
           have n0_ : Aside0 (w22.heap[gb185]? = some (.cells #[.int .i64 a1_0, .int .i64 a1_1, .int .i64 a1_2, .int .i64 a1_3] 33 (0, 0))) := ⟨h0_⟩
           have n1_ : Aside0 (w22.heap[gb186]? = some (.cells #[.int .i64 0, .int .i64 0, .int .i64 0, .int .i64 0] 33 (0, 0))) := ⟨h1_⟩
           have n2_ : Aside0 (w22.heap[gb191]? = some (.cells #[.int .i64 t187, .int .i64 t188, .int .i64 t189] 28 (0, 0))) := ⟨h2_⟩
           have n3_ : Aside0 (w22.heap[gb200]? = some (.cells #[.int .i64 0, .int .i64 0, .int .i64 0, .int .i64 0] 33 (0, 0))) := ⟨h3_⟩
           have n4_ : Aside0 (w.heap.size ≤ gb200) := ⟨h4_⟩
           have n5_ : Aside0 (w.heap.size ≤ gb200) := ⟨h5_⟩
           have n6_ : Aside0 (gb185 ≠ gb200) := ⟨h6_⟩
           have n7_ : Aside0 (gb200 ≠ gb185) := ⟨h7_⟩
           have n8_ : Aside0 (gb186 ≠ gb200) := ⟨h8_⟩
           have n9_ : Aside0 (gb200 ≠ gb186) := ⟨h9_⟩
           have n10_ : Aside0 (gb191 ≠ gb200) := ⟨h10_⟩
           have n11_ : Aside0 (gb200 ≠ gb191) := ⟨h11_⟩
           have n12_ : Aside0 (Below w.heap.size w w22) := ⟨h12_⟩
           clear BK185
           clear BK186
           clear BK191
           clear HB
           clear h0_ h1_ h2_ h3_ h4_ h5_ h6_ h7_ h8_ h9_ h10_ h11_ h12_
           have BK185 := n0_
           have BK186 := n1_
           have BK191 := n2_
           have BK200 := n3_
           have GW200 := n4_
           have GE200 := n5_
           have NB185_200 := n6_
           have NB200_185 := n7_
           have NB186_200 := n8_
           have NB200_186 := n9_
           have NB191_200 := n10_
           have NB200_191 := n11_
           have HB := n12_
           clear n0_ n1_ n2_ n3_ n4_ n5_ n6_ n7_ n8_ n9_ n10_ n11_ n12_
           have hHeld : w22.cell? ⟨gb191, 0, none⟩ = some (.int .i64 t187) ∧ w22.cell? ⟨gb191, 1, none⟩ = some (.int .i64 t188) ∧ w22.cell? ⟨gb191, 2, none⟩ = some (.int .i64 t189) := hS_
           refine norm_ (a' := ?_) ?_ ?_
           rotate_left
           ·simp only [putAll, Act.put, lstS, lstZ, lstC]
            rfl
           refine one_ (i := 5) (N := some 33) #[true, true, true, true, true, true, true, true, true, true, true, true, true, false, false, false, true, true, false, false, false, false, false, false, false, true, false, false] rfl rfl (one_of HT_.out (by kernel_rfl)) (by decide) (fun K hK => ?_)
           refine goes_ Try.func72 (by kernel_rfl) rfl #[.int .i64 a0, .int .i64 (wrap64 (t187 + (ji5)))] (by rfl) rfl rfl (by (try simp only [List.map_toArray, List.map_cons, List.map_nil]); first | done | (simp only [hji5]; rfl) | rfl | (simp only [List.length_drop, List.length_take]; rfl)) ?_
           with_reducible refine (spec_l01Power.calls k a0 (wrap64 (t187 + (ji5))) t192 _ A6.out).mono ?_
           rintro e w' ⟨rfl, ⟨nd, rfl⟩⟩
           refine ⟨_, rfl, ?_⟩
           refine hK.out _ _ ⟨(blk_cell BK191.out 0).trans rfl, (blk_cell BK191.out 1).trans rfl, (blk_cell BK191.out 2).trans rfl⟩ (fun hHeld => ?_)
           clear hK K
           refine norm_ (a' := ?_) ?_ ?_
           rotate_left
           ·show Act.put _ (some 33) _ = _
            simp only [Act.put, lstS, lstZ, lstC, i64_w, i32_w]
            rfl
           exact norm_ (by first | (simp only [putAll, Act.put, lstS, lstZ, lstC]; done) | (simp only [putAll, Act.put, lstS, lstZ, lstC]; rfl)) (hJ5_25 (gb200) _ ⟨hHeld, (bl_ BK185).out, (bl_ BK186).out, (bl_ BK191).out, (bl_ BK200).out, GW200.out, GE200.out, NB185_200.out, NB200_185.out, NB186_200.out, NB200_186.out, NB191_200.out, NB200_191.out, (bw_ HB).out⟩)
         ·skip
          rintro _ w21 ⟨hS_, h0_, h1_, h2_, h3_⟩
          have n0_ : Aside0 (w21.heap[gb185]? = some (.cells #[.int .i64 a1_0, .int .i64 a1_1, .int .i64 a1_2, .int .i64 a1_3] 33 (0, 0))) := ⟨h0_⟩
          have n1_ : Aside0 (w21.heap[gb186]? = some (.cells #[.int .i64 0, .int .i64 0, .int .i64 0, .int .i64 0] 33 (0, 0))) := ⟨h1_⟩
          have n2_ : Aside0 (w21.heap[gb191]? = some (.cells #[.int .i64 t187, .int .i64 t188, .int .i64 t189] 28 (0, 0))) := ⟨h2_⟩
          have n3_ : Aside0 (Below w.heap.size w w21) := ⟨h3_⟩
          clear BK185
          clear BK186
          clear BK191
          clear HB
          clear h0_ h1_ h2_ h3_
          have BK185 := n0_
          have BK186 := n1_
          have BK191 := n2_
          have HB := n3_
          clear n0_ n1_ n2_ n3_
          have hHeld : w21.cell? ⟨gb191, 0, none⟩ = some (.int .i64 t187) ∧ w21.cell? ⟨gb191, 1, none⟩ = some (.int .i64 t188) ∧ w21.cell? ⟨gb191, 2, none⟩ = some (.int .i64 t189) := hS_
          refine norm_ (a' := ?_) ?_ ?_
          rotate_left
          ·simp only [putAll, Act.put, lstS, lstZ, lstC]
           rfl
          refine two_ (i := 13) (j := 25) (Ni := some 41) (Nj := some 9) #[true, true, true, true, true, true, true, true, true, true, true, true, true, true, false, false, true, true, false, false, false, false, false, false, false, false, false, false] #[true, true, true, true, true, true, true, true, true, true, true, true, true, false, false, false, true, true, false, false, false, false, false, false, false, true, false, false] rfl rfl rfl rfl (two_of HT_.out (by kernel_rfl)) (by decide) (by decide) (fun K hK => ?_) (fun K hK => ?_)
          ·skip
           refine goes_ Try.func72 (by kernel_rfl) rfl #[.int .i64 a0, .int .i64 (wrap64 ((ji5) - t189))] (by rfl) rfl rfl (by (try simp only [List.map_toArray, List.map_cons, List.map_nil]); first | done | (simp only [hji5]; rfl) | rfl | (simp only [List.length_drop, List.length_take]; rfl)) ?_
           with_reducible refine (spec_l01Power.calls k a0 (wrap64 ((ji5) - t189)) t193 _ A7.out).mono ?_
           rintro e w' ⟨rfl, ⟨nd, rfl⟩⟩
           refine ⟨_, rfl, ?_⟩
           refine hK.out _ _ ⟨(blk_cell BK191.out 0).trans rfl, (blk_cell BK191.out 1).trans rfl, (blk_cell BK191.out 2).trans rfl⟩ (fun hHeld => ?_)
           clear hK K
           refine norm_ (a' := ?_) ?_ ?_
           rotate_left
           ·show Act.put _ (some 41) _ = _
            simp only [Act.put, lstS, lstZ, lstC, i64_w, i32_w]
            rfl
           refine pu_ HT_ 14 (some 42) #[true, true, true, true, true, true, true, true, true, true, true, true, true, true, true, false, true, true, false, false, false, false, false, false, false, false, false, false] ?_
           refine pu_ HT_ 15 (some 43) #[true, true, true, true, true, true, true, true, true, true, true, true, true, true, true, true, true, true, false, false, false, false, false, false, false, false, false, false] ?_
           exact norm_ (by first | (simp only [putAll, Act.put, lstS, lstZ, lstC]; done) | (simp only [putAll, Act.put, lstS, lstZ, lstC]; rfl)) (hJ5_13 () _ ⟨hHeld, (bl_ BK185).out, (bl_ BK186).out, (bl_ BK191).out, (bw_ HB).out⟩)
          ·skip
           refine box_step ?hg (N := 9) ?hd (cs := #[.int .i64 0, .int .i64 0, .int .i64 0, .int .i64 0]) (t := 33) ?hr ?_; (case hd => rfl); (case hg => rfl); (case hr => first | (go_simp; done) | (go_simp; rfl))
           intro gb200 hg w22 hbox hb
           have BK200 := Aside0.mk (hbox)
           have GW200 := bs_ HB hg
           have GE200 := bs_ HB hg
           have NB185_200 := bm_ BK185 hg
           have NB200_185 := bn_ BK185 hg
           have NB186_200 := bm_ BK186 hg
           have NB200_186 := bn_ BK186 hg
           have NB191_200 := bm_ BK191 hg
           have NB200_191 := bn_ BK191 hg
           replace BK185 := bb_ BK185 hb
           replace BK186 := bb_ BK186 hb
           replace BK191 := bb_ BK191 hb
           replace HB := bt_ HB hb
           clear hb hbox hg
           refine hK.out _ _ ⟨(blk_cell BK191.out 0).trans rfl, (blk_cell BK191.out 1).trans rfl, (blk_cell BK191.out 2).trans rfl⟩ (fun hHeld => ?_)
           clear hK K
           refine norm_ (a' := ?_) ?_ ?_
           rotate_left
           ·show Act.put _ (some 9) _ = _
            simp only [Act.put, lstS, lstZ, lstC, i64_w, i32_w]
            rfl
           exact norm_ (by first | (simp only [putAll, Act.put, lstS, lstZ, lstC]; done) | (simp only [putAll, Act.put, lstS, lstZ, lstC]; rfl)) (hJ5_25 (gb200) _ ⟨hHeld, (bl_ BK185).out, (bl_ BK186).out, (bl_ BK191).out, (bl_ BK200).out, GW200.out, GE200.out, NB185_200.out, NB200_185.out, NB186_200.out, NB200_186.out, NB191_200.out, NB200_191.out, (bw_ HB).out⟩)
        ·skip
         rintro gb200 w22 ⟨hS_, h0_, h1_, h2_, h3_, h4_, h5_, h6_, h7_, h8_, h9_, h10_, h11_, h12_⟩
         have n0_ : Aside0 (w22.heap[gb185]? = some (.cells #[.int .i64 a1_0, .int .i64 a1_1, .int .i64 a1_2, .int .i64 a1_3] 33 (0, 0))) := ⟨h0_⟩
         have n1_ : Aside0 (w22.heap[gb186]? = some (.cells #[.int .i64 0, .int .i64 0, .int .i64 0, .int .i64 0] 33 (0, 0))) := ⟨h1_⟩
         have n2_ : Aside0 (w22.heap[gb191]? = some (.cells #[.int .i64 t187, .int .i64 t188, .int .i64 t189] 28 (0, 0))) := ⟨h2_⟩
         have n3_ : Aside0 (w22.heap[gb200]? = some (.cells #[.int .i64 0, .int .i64 0, .int .i64 0, .int .i64 0] 33 (0, 0))) := ⟨h3_⟩
         have n4_ : Aside0 (w.heap.size ≤ gb200) := ⟨h4_⟩
         have n5_ : Aside0 (w.heap.size ≤ gb200) := ⟨h5_⟩
         have n6_ : Aside0 (gb185 ≠ gb200) := ⟨h6_⟩
         have n7_ : Aside0 (gb200 ≠ gb185) := ⟨h7_⟩
         have n8_ : Aside0 (gb186 ≠ gb200) := ⟨h8_⟩
         have n9_ : Aside0 (gb200 ≠ gb186) := ⟨h9_⟩
         have n10_ : Aside0 (gb191 ≠ gb200) := ⟨h10_⟩
         have n11_ : Aside0 (gb200 ≠ gb191) := ⟨h11_⟩
         have n12_ : Aside0 (Below w.heap.size w w22) := ⟨h12_⟩
         clear BK185
         clear BK186
         clear BK191
         clear HB
         clear h0_ h1_ h2_ h3_ h4_ h5_ h6_ h7_ h8_ h9_ h10_ h11_ h12_
         have BK185 := n0_
         have BK186 := n1_
         have BK191 := n2_
         have BK200 := n3_
         have GW200 := n4_
         have GE200 := n5_
         have NB185_200 := n6_
         have NB200_185 := n7_
         have NB186_200 := n8_
         have NB200_186 := n9_
         have NB191_200 := n10_
         have NB200_191 := n11_
         have HB := n12_
         clear n0_ n1_ n2_ n3_ n4_ n5_ n6_ n7_ n8_ n9_ n10_ n11_ n12_
         have hHeld : w22.cell? ⟨gb191, 0, none⟩ = some (.int .i64 t187) ∧ w22.cell? ⟨gb191, 1, none⟩ = some (.int .i64 t188) ∧ w22.cell? ⟨gb191, 2, none⟩ = some (.int .i64 t189) := hS_
         refine norm_ (a' := ?_) ?_ ?_
         rotate_left
         ·simp only [putAll, Act.put, lstS, lstZ, lstC]
          rfl
         refine one_ (i := 13) (N := some 41) #[true, true, true, true, true, true, true, true, true, true, true, true, true, true, false, false, true, true, false, false, false, false, false, false, false, true, false, false] rfl rfl (one_of HT_.out (by kernel_rfl)) (by decide) (fun K hK => ?_)
         refine goes_ Try.func72 (by kernel_rfl) rfl #[.int .i64 a0, .int .i64 (wrap64 ((ji5) - t189))] (by rfl) rfl rfl (by (try simp only [List.map_toArray, List.map_cons, List.map_nil]); first | done | (simp only [hji5]; rfl) | rfl | (simp only [List.length_drop, List.length_take]; rfl)) ?_
         with_reducible refine (spec_l01Power.calls k a0 (wrap64 ((ji5) - t189)) t193 _ A7.out).mono ?_
         rintro e w' ⟨rfl, ⟨nd, rfl⟩⟩
         refine ⟨_, rfl, ?_⟩
         refine hK.out _ _ ⟨(blk_cell BK191.out 0).trans rfl, (blk_cell BK191.out 1).trans rfl, (blk_cell BK191.out 2).trans rfl⟩ (fun hHeld => ?_)
         clear hK K
         refine norm_ (a' := ?_) ?_ ?_
         rotate_left
         ·show Act.put _ (some 41) _ = _
          simp only [Act.put, lstS, lstZ, lstC, i64_w, i32_w]
          rfl
         refine pu_ HT_ 14 (some 42) #[true, true, true, true, true, true, true, true, true, true, true, true, true, true, true, false, true, true, false, false, false, false, false, false, false, true, false, false] ?_
         refine pu_ HT_ 15 (some 43) #[true, true, true, true, true, true, true, true, true, true, true, true, true, true, true, true, true, true, false, false, false, false, false, false, false, true, false, false] ?_
         exact norm_ (by first | (simp only [putAll, Act.put, lstS, lstZ, lstC]; done) | (simp only [putAll, Act.put, lstS, lstZ, lstC]; rfl)) (hJ5_13_25 (gb200) _ ⟨hHeld, (bl_ BK185).out, (bl_ BK186).out, (bl_ BK191).out, (bl_ BK200).out, GW200.out, GE200.out, NB185_200.out, NB200_185.out, NB186_200.out, NB200_186.out, NB191_200.out, NB200_191.out, (bw_ HB).out⟩)
       ·skip
        rintro _ w21 ⟨hS_, h0_, h1_, h2_, h3_⟩
        have n0_ : Aside0 (w21.heap[gb185]? = some (.cells #[.int .i64 a1_0, .int .i64 a1_1, .int .i64 a1_2, .int .i64 a1_3] 33 (0, 0))) := ⟨h0_⟩
        have n1_ : Aside0 (w21.heap[gb186]? = some (.cells #[.int .i64 0, .int .i64 0, .int .i64 0, .int .i64 0] 33 (0, 0))) := ⟨h1_⟩
        have n2_ : Aside0 (w21.heap[gb191]? = some (.cells #[.int .i64 t187, .int .i64 t188, .int .i64 t189] 28 (0, 0))) := ⟨h2_⟩
        have n3_ : Aside0 (Below w.heap.size w w21) := ⟨h3_⟩
        clear BK185
        clear BK186
        clear BK191
        clear HB
        clear h0_ h1_ h2_ h3_
        have BK185 := n0_
        have BK186 := n1_
        have BK191 := n2_
        have HB := n3_
        clear n0_ n1_ n2_ n3_
        have hHeld : w21.cell? ⟨gb191, 0, none⟩ = some (.int .i64 t187) ∧ w21.cell? ⟨gb191, 1, none⟩ = some (.int .i64 t188) ∧ w21.cell? ⟨gb191, 2, none⟩ = some (.int .i64 t189) := hS_
        refine norm_ (a' := ?_) ?_ ?_
        rotate_left
        ·simp only [putAll, Act.put, lstS, lstZ, lstC]
         rfl
        refine two_ (i := 18) (j := 25) (Ni := some 46) (Nj := some 9) #[true, true, true, true, true, true, true, true, true, true, true, true, true, true, true, true, true, true, true, false, false, false, false, false, false, false, false, false] #[true, true, true, true, true, true, true, true, true, true, true, true, true, true, true, true, true, true, false, false, false, false, false, false, false, true, false, false] rfl rfl rfl rfl (two_of HT_.out (by kernel_rfl)) (by decide) (by decide) (fun K hK => ?_) (fun K hK => ?_)
        ·skip
         refine goes_ Try.func72 (by kernel_rfl) rfl #[.int .i64 a0, .int .i64 ji5] (by rfl) rfl rfl (by (try simp only [List.map_toArray, List.map_cons, List.map_nil]); first | done | (simp only [hji5]; rfl) | rfl | (simp only [List.length_drop, List.length_take]; rfl)) ?_
         with_reducible refine (spec_l01Power.calls k a0 ji5 t194 _ A8.out).mono ?_
         rintro e w' ⟨rfl, ⟨nd, rfl⟩⟩
         refine ⟨_, rfl, ?_⟩
         refine hK.out _ _ ⟨(blk_cell BK191.out 0).trans rfl, (blk_cell BK191.out 1).trans rfl, (blk_cell BK191.out 2).trans rfl⟩ (fun hHeld => ?_)
         clear hK K
         refine norm_ (a' := ?_) ?_ ?_
         rotate_left
         ·show Act.put _ (some 46) _ = _
          simp only [Act.put, lstS, lstZ, lstC, i64_w, i32_w]
          rfl
         refine pu_ HT_ 19 (some 47) #[true, true, true, true, true, true, true, true, true, true, true, true, true, true, true, true, true, true, true, true, false, false, false, false, false, false, false, false] ?_
         refine pu_ HT_ 20 (some 48) #[true, true, true, true, true, true, true, true, true, true, true, true, true, true, true, true, true, true, true, true, true, false, false, false, false, false, false, false] ?_
         exact norm_ (by first | (simp only [putAll, Act.put, lstS, lstZ, lstC]; done) | (simp only [putAll, Act.put, lstS, lstZ, lstC]; rfl)) (hJ5_13_18 () _ ⟨hHeld, (bl_ BK185).out, (bl_ BK186).out, (bl_ BK191).out, (bw_ HB).out⟩)
        ·skip
         refine box_step ?hg (N := 9) ?hd (cs := #[.int .i64 0, .int .i64 0, .int .i64 0, .int .i64 0]) (t := 33) ?hr ?_; (case hd => rfl); (case hg => rfl); (case hr => first | (go_simp; done) | (go_simp; rfl))
         intro gb200 hg w22 hbox hb
         have BK200 := Aside0.mk (hbox)
         have GW200 := bs_ HB hg
         have GE200 := bs_ HB hg
         have NB185_200 := bm_ BK185 hg
         have NB200_185 := bn_ BK185 hg
         have NB186_200 := bm_ BK186 hg
         have NB200_186 := bn_ BK186 hg
         have NB191_200 := bm_ BK191 hg
         have NB200_191 := bn_ BK191 hg
         replace BK185 := bb_ BK185 hb
         replace BK186 := bb_ BK186 hb
         replace BK191 := bb_ BK191 hb
         replace HB := bt_ HB hb
         clear hb hbox hg
         refine hK.out _ _ ⟨(blk_cell BK191.out 0).trans rfl, (blk_cell BK191.out 1).trans rfl, (blk_cell BK191.out 2).trans rfl⟩ (fun hHeld => ?_)
         clear hK K
         refine norm_ (a' := ?_) ?_ ?_
         rotate_left
         ·show Act.put _ (some 9) _ = _
          simp only [Act.put, lstS, lstZ, lstC, i64_w, i32_w]
          rfl
         exact norm_ (by first | (simp only [putAll, Act.put, lstS, lstZ, lstC]; done) | (simp only [putAll, Act.put, lstS, lstZ, lstC]; rfl)) (hJ5_13_25 (gb200) _ ⟨hHeld, (bl_ BK185).out, (bl_ BK186).out, (bl_ BK191).out, (bl_ BK200).out, GW200.out, GE200.out, NB185_200.out, NB200_185.out, NB186_200.out, NB200_186.out, NB191_200.out, NB200_191.out, (bw_ HB).out⟩)
      ·skip
       rintro gb200 w22 ⟨hS_, h0_, h1_, h2_, h3_, h4_, h5_, h6_, h7_, h8_, h9_, h10_, h11_, h12_⟩
       have n0_ : Aside0 (w22.heap[gb185]? = some (.cells #[.int .i64 a1_0, .int .i64 a1_1, .int .i64 a1_2, .int .i64 a1_3] 33 (0, 0))) := ⟨h0_⟩
       have n1_ : Aside0 (w22.heap[gb186]? = some (.cells #[.int .i64 0, .int .i64 0, .int .i64 0, .int .i64 0] 33 (0, 0))) := ⟨h1_⟩
       have n2_ : Aside0 (w22.heap[gb191]? = some (.cells #[.int .i64 t187, .int .i64 t188, .int .i64 t189] 28 (0, 0))) := ⟨h2_⟩
       have n3_ : Aside0 (w22.heap[gb200]? = some (.cells #[.int .i64 0, .int .i64 0, .int .i64 0, .int .i64 0] 33 (0, 0))) := ⟨h3_⟩
       have n4_ : Aside0 (w.heap.size ≤ gb200) := ⟨h4_⟩
       have n5_ : Aside0 (w.heap.size ≤ gb200) := ⟨h5_⟩
       have n6_ : Aside0 (gb185 ≠ gb200) := ⟨h6_⟩
       have n7_ : Aside0 (gb200 ≠ gb185) := ⟨h7_⟩
       have n8_ : Aside0 (gb186 ≠ gb200) := ⟨h8_⟩
       have n9_ : Aside0 (gb200 ≠ gb186) := ⟨h9_⟩
       have n10_ : Aside0 (gb191 ≠ gb200) := ⟨h10_⟩
       have n11_ : Aside0 (gb200 ≠ gb191) := ⟨h11_⟩
       have n12_ : Aside0 (Below w.heap.size w w22) := ⟨h12_⟩
       clear BK185
       clear BK186
       clear BK191
       clear HB
       clear h0_ h1_ h2_ h3_ h4_ h5_ h6_ h7_ h8_ h9_ h10_ h11_ h12_
       have BK185 := n0_
       have BK186 := n1_
       have BK191 := n2_
       have BK200 := n3_
       have GW200 := n4_
       have GE200 := n5_
       have NB185_200 := n6_
       have NB200_185 := n7_
       have NB186_200 := n8_
       have NB200_186 := n9_
       have NB191_200 := n10_
       have NB200_191 := n11_
       have HB := n12_
       clear n0_ n1_ n2_ n3_ n4_ n5_ n6_ n7_ n8_ n9_ n10_ n11_ n12_
       have hHeld : w22.cell? ⟨gb191, 0, none⟩ = some (.int .i64 t187) ∧ w22.cell? ⟨gb191, 1, none⟩ = some (.int .i64 t188) ∧ w22.cell? ⟨gb191, 2, none⟩ = some (.int .i64 t189) := hS_
       refine norm_ (a' := ?_) ?_ ?_
       rotate_left
       ·simp only [putAll, Act.put, lstS, lstZ, lstC]
        rfl
       refine one_ (i := 18) (N := some 46) #[true, true, true, true, true, true, true, true, true, true, true, true, true, true, true, true, true, true, true, false, false, false, false, false, false, true, false, false] rfl rfl (one_of HT_.out (by kernel_rfl)) (by decide) (fun K hK => ?_)
       refine goes_ Try.func72 (by kernel_rfl) rfl #[.int .i64 a0, .int .i64 ji5] (by rfl) rfl rfl (by (try simp only [List.map_toArray, List.map_cons, List.map_nil]); first | done | (simp only [hji5]; rfl) | rfl | (simp only [List.length_drop, List.length_take]; rfl)) ?_
       with_reducible refine (spec_l01Power.calls k a0 ji5 t194 _ A8.out).mono ?_
       rintro e w' ⟨rfl, ⟨nd, rfl⟩⟩
       refine ⟨_, rfl, ?_⟩
       refine hK.out _ _ ⟨(blk_cell BK191.out 0).trans rfl, (blk_cell BK191.out 1).trans rfl, (blk_cell BK191.out 2).trans rfl⟩ (fun hHeld => ?_)
       clear hK K
       refine norm_ (a' := ?_) ?_ ?_
       rotate_left
       ·show Act.put _ (some 46) _ = _
        simp only [Act.put, lstS, lstZ, lstC, i64_w, i32_w]
        rfl
       refine pu_ HT_ 19 (some 47) #[true, true, true, true, true, true, true, true, true, true, true, true, true, true, true, true, true, true, true, true, false, false, false, false, false, true, false, false] ?_
       refine pu_ HT_ 20 (some 48) #[true, true, true, true, true, true, true, true, true, true, true, true, true, true, true, true, true, true, true, true, true, false, false, false, false, true, false, false] ?_
       exact norm_ (by first | (simp only [putAll, Act.put, lstS, lstZ, lstC]; done) | (simp only [putAll, Act.put, lstS, lstZ, lstC]; rfl)) (hJ5_13_18_25 (gb200) _ ⟨hHeld, (bl_ BK185).out, (bl_ BK186).out, (bl_ BK191).out, (bl_ BK200).out, GW200.out, GE200.out, NB185_200.out, NB200_185.out, NB186_200.out, NB200_186.out, NB191_200.out, NB200_191.out, (bw_ HB).out⟩)
     ·skip
      rintro _ w21 ⟨hS_, h0_, h1_, h2_, h3_⟩
      have n0_ : Aside0 (w21.heap[gb185]? = some (.cells #[.int .i64 a1_0, .int .i64 a1_1, .int .i64 a1_2, .int .i64 a1_3] 33 (0, 0))) := ⟨h0_⟩
      have n1_ : Aside0 (w21.heap[gb186]? = some (.cells #[.int .i64 0, .int .i64 0, .int .i64 0, .int .i64 0] 33 (0, 0))) := ⟨h1_⟩
      have n2_ : Aside0 (w21.heap[gb191]? = some (.cells #[.int .i64 t187, .int .i64 t188, .int .i64 t189] 28 (0, 0))) := ⟨h2_⟩
      have n3_ : Aside0 (Below w.heap.size w w21) := ⟨h3_⟩
      clear BK185
      clear BK186
      clear BK191
      clear HB
      clear h0_ h1_ h2_ h3_
      have BK185 := n0_
      have BK186 := n1_
      have BK191 := n2_
      have HB := n3_
      clear n0_ n1_ n2_ n3_
      have hHeld : w21.cell? ⟨gb191, 0, none⟩ = some (.int .i64 t187) ∧ w21.cell? ⟨gb191, 1, none⟩ = some (.int .i64 t188) ∧ w21.cell? ⟨gb191, 2, none⟩ = some (.int .i64 t189) := hS_
      refine norm_ (a' := ?_) ?_ ?_
      rotate_left
      ·simp only [putAll, Act.put, lstS, lstZ, lstC]
       rfl
      refine two_ (i := 21) (j := 25) (Ni := some 49) (Nj := some 9) #[true, true, true, true, true, true, true, true, true, true, true, true, true, true, true, true, true, true, true, true, true, true, false, false, false, false, false, false] #[true, true, true, true, true, true, true, true, true, true, true, true, true, true, true, true, true, true, true, true, true, false, false, false, false, true, false, false] rfl rfl rfl rfl (two_of HT_.out (by kernel_rfl)) (by decide) (by decide) (fun K hK => ?_) (fun K hK => ?_)
      ·skip
       refine goes_ Try.func84 (by kernel_rfl) rfl #[.agg #[.int .i64 t192, .int .i64 (wrap64 (t188 * t193)), .int .i64 0, .int .i64 t194]] (by rfl) rfl rfl (by (try simp only [List.map_toArray, List.map_cons, List.map_nil]); first | done | rfl | (simp only [List.length_drop, List.length_take]; rfl)) ?_
       with_reducible refine (spec_l04Reduce.calls k t192 (wrap64 (t188 * t193)) 0 t194 t195 t196 t197 t198 t199 _ A9.out).mono ?_
       rintro e w22 ⟨rfl, hb⟩
       refine ⟨_, rfl, ?_⟩
       replace BK185 := bb_ BK185 hb
       replace BK186 := bb_ BK186 hb
       replace BK191 := bb_ BK191 hb
       replace HB := bt_ HB hb
       (try clear hb)
       (try clear hb2)
       (try clear hk)
       (try clear hi)
       refine hK.out _ _ ⟨(blk_cell BK191.out 0).trans rfl, (blk_cell BK191.out 1).trans rfl, (blk_cell BK191.out 2).trans rfl⟩ (fun hHeld => ?_)
       clear hK K
       refine norm_ (a' := ?_) ?_ ?_
       rotate_left
       ·show Act.put _ (some 49) _ = _
        simp only [Act.put, lstS, lstZ, lstC, i64_w, i32_w]
        rfl
       refine pu_ HT_ 22 (some 27) #[true, true, true, true, true, true, true, true, true, true, true, true, true, true, true, true, true, true, true, true, true, true, true, false, false, false, false, false] ?_
       refine pu_ HT_ 23 (some 50) #[true, true, true, true, true, true, true, true, true, true, true, true, true, true, true, true, true, true, true, true, true, true, true, true, false, false, false, false] ?_
       refine pu_ HT_ 24 (some 51) #[true, true, true, true, true, true, true, true, true, true, true, true, true, true, true, true, true, true, true, true, true, true, true, true, true, false, false, false] ?_
       exact norm_ (by first | (simp only [putAll, Act.put, lstS, lstZ, lstC]; done) | (simp only [putAll, Act.put, lstS, lstZ, lstC]; rfl)) (hJ5_13_18_21 () _ ⟨hHeld, (bl_ BK185).out, (bl_ BK186).out, (bl_ BK191).out, (bw_ HB).out⟩)
      ·skip
       refine box_step ?hg (N := 9) ?hd (cs := #[.int .i64 0, .int .i64 0, .int .i64 0, .int .i64 0]) (t := 33) ?hr ?_; (case hd => rfl); (case hg => rfl); (case hr => first | (go_simp; done) | (go_simp; rfl))
       intro gb200 hg w22 hbox hb
       have BK200 := Aside0.mk (hbox)
       have GW200 := bs_ HB hg
       have GE200 := bs_ HB hg
       have NB185_200 := bm_ BK185 hg
       have NB200_185 := bn_ BK185 hg
       have NB186_200 := bm_ BK186 hg
       have NB200_186 := bn_ BK186 hg
       have NB191_200 := bm_ BK191 hg
       have NB200_191 := bn_ BK191 hg
       replace BK185 := bb_ BK185 hb
       replace BK186 := bb_ BK186 hb
       replace BK191 := bb_ BK191 hb
       replace HB := bt_ HB hb
       clear hb hbox hg
       refine hK.out _ _ ⟨(blk_cell BK191.out 0).trans rfl, (blk_cell BK191.out 1).trans rfl, (blk_cell BK191.out 2).trans rfl⟩ (fun hHeld => ?_)
       clear hK K
       refine norm_ (a' := ?_) ?_ ?_
       rotate_left
       ·show Act.put _ (some 9) _ = _
        simp only [Act.put, lstS, lstZ, lstC, i64_w, i32_w]
        rfl
       exact norm_ (by first | (simp only [putAll, Act.put, lstS, lstZ, lstC]; done) | (simp only [putAll, Act.put, lstS, lstZ, lstC]; rfl)) (hJ5_13_18_25 (gb200) _ ⟨hHeld, (bl_ BK185).out, (bl_ BK186).out, (bl_ BK191).out, (bl_ BK200).out, GW200.out, GE200.out, NB185_200.out, NB200_185.out, NB186_200.out, NB200_186.out, NB191_200.out, NB200_191.out, (bw_ HB).out⟩)
    ·skip
     rintro gb200 w22 ⟨hS_, h0_, h1_, h2_, h3_, h4_, h5_, h6_, h7_, h8_, h9_, h10_, h11_, h12_⟩
     have n0_ : Aside0 (w22.heap[gb185]? = some (.cells #[.int .i64 a1_0, .int .i64 a1_1, .int .i64 a1_2, .int .i64 a1_3] 33 (0, 0))) := ⟨h0_⟩
     have n1_ : Aside0 (w22.heap[gb186]? = some (.cells #[.int .i64 0, .int .i64 0, .int .i64 0, .int .i64 0] 33 (0, 0))) := ⟨h1_⟩
     have n2_ : Aside0 (w22.heap[gb191]? = some (.cells #[.int .i64 t187, .int .i64 t188, .int .i64 t189] 28 (0, 0))) := ⟨h2_⟩
     have n3_ : Aside0 (w22.heap[gb200]? = some (.cells #[.int .i64 0, .int .i64 0, .int .i64 0, .int .i64 0] 33 (0, 0))) := ⟨h3_⟩
     have n4_ : Aside0 (w.heap.size ≤ gb200) := ⟨h4_⟩
     have n5_ : Aside0 (w.heap.size ≤ gb200) := ⟨h5_⟩
     have n6_ : Aside0 (gb185 ≠ gb200) := ⟨h6_⟩
     have n7_ : Aside0 (gb200 ≠ gb185) := ⟨h7_⟩
     have n8_ : Aside0 (gb186 ≠ gb200) := ⟨h8_⟩
     have n9_ : Aside0 (gb200 ≠ gb186) := ⟨h9_⟩
     have n10_ : Aside0 (gb191 ≠ gb200) := ⟨h10_⟩
     have n11_ : Aside0 (gb200 ≠ gb191) := ⟨h11_⟩
     have n12_ : Aside0 (Below w.heap.size w w22) := ⟨h12_⟩
     clear BK185
     clear BK186
     clear BK191
     clear HB
     clear h0_ h1_ h2_ h3_ h4_ h5_ h6_ h7_ h8_ h9_ h10_ h11_ h12_
     have BK185 := n0_
     have BK186 := n1_
     have BK191 := n2_
     have BK200 := n3_
     have GW200 := n4_
     have GE200 := n5_
     have NB185_200 := n6_
     have NB200_185 := n7_
     have NB186_200 := n8_
     have NB200_186 := n9_
     have NB191_200 := n10_
     have NB200_191 := n11_
     have HB := n12_
     clear n0_ n1_ n2_ n3_ n4_ n5_ n6_ n7_ n8_ n9_ n10_ n11_ n12_
     have hHeld : w22.cell? ⟨gb191, 0, none⟩ = some (.int .i64 t187) ∧ w22.cell? ⟨gb191, 1, none⟩ = some (.int .i64 t188) ∧ w22.cell? ⟨gb191, 2, none⟩ = some (.int .i64 t189) := hS_
     refine norm_ (a' := ?_) ?_ ?_
     rotate_left
     ·simp only [putAll, Act.put, lstS, lstZ, lstC]
      rfl
     refine one_ (i := 21) (N := some 49) #[true, true, true, true, true, true, true, true, true, true, true, true, true, true, true, true, true, true, true, true, true, true, false, false, false, true, false, false] rfl rfl (one_of HT_.out (by kernel_rfl)) (by decide) (fun K hK => ?_)
     refine goes_ Try.func84 (by kernel_rfl) rfl #[.agg #[.int .i64 t192, .int .i64 (wrap64 (t188 * t193)), .int .i64 0, .int .i64 t194]] (by rfl) rfl rfl (by (try simp only [List.map_toArray, List.map_cons, List.map_nil]); first | done | rfl | (simp only [List.length_drop, List.length_take]; rfl)) ?_
     with_reducible refine (spec_l04Reduce.calls k t192 (wrap64 (t188 * t193)) 0 t194 t195 t196 t197 t198 t199 _ A9.out).mono ?_
     rintro e w23 ⟨rfl, hb⟩
     refine ⟨_, rfl, ?_⟩
     replace BK185 := bb_ BK185 hb
     replace BK186 := bb_ BK186 hb
     replace BK191 := bb_ BK191 hb
     replace BK200 := bb_ BK200 hb
     replace HB := bt_ HB hb
     (try clear hb)
     (try clear hb2)
     (try clear hk)
     (try clear hi)
     refine hK.out _ _ ⟨(blk_cell BK191.out 0).trans rfl, (blk_cell BK191.out 1).trans rfl, (blk_cell BK191.out 2).trans rfl⟩ (fun hHeld => ?_)
     clear hK K
     refine norm_ (a' := ?_) ?_ ?_
     rotate_left
     ·show Act.put _ (some 49) _ = _
      simp only [Act.put, lstS, lstZ, lstC, i64_w, i32_w]
      rfl
     refine pu_ HT_ 22 (some 27) #[true, true, true, true, true, true, true, true, true, true, true, true, true, true, true, true, true, true, true, true, true, true, true, false, false, true, false, false] ?_
     refine pu_ HT_ 23 (some 50) #[true, true, true, true, true, true, true, true, true, true, true, true, true, true, true, true, true, true, true, true, true, true, true, true, false, true, false, false] ?_
     refine pu_ HT_ 24 (some 51) #[true, true, true, true, true, true, true, true, true, true, true, true, true, true, true, true, true, true, true, true, true, true, true, true, true, true, false, false] ?_
     exact norm_ (by first | (simp only [putAll, Act.put, lstS, lstZ, lstC]; done) | (simp only [putAll, Act.put, lstS, lstZ, lstC]; rfl)) (hJ5_13_18_21_25 (gb200) _ ⟨hHeld, (bl_ BK185).out, (bl_ BK186).out, (bl_ BK191).out, (bl_ BK200).out, GW200.out, GE200.out, NB185_200.out, NB200_185.out, NB186_200.out, NB200_186.out, NB191_200.out, NB200_191.out, (bw_ HB).out⟩)
   ·skip
    rintro _ w22 ⟨hS_, h0_, h1_, h2_, h3_⟩
    have n0_ : Aside0 (w22.heap[gb185]? = some (.cells #[.int .i64 a1_0, .int .i64 a1_1, .int .i64 a1_2, .int .i64 a1_3] 33 (0, 0))) := ⟨h0_⟩
    have n1_ : Aside0 (w22.heap[gb186]? = some (.cells #[.int .i64 0, .int .i64 0, .int .i64 0, .int .i64 0] 33 (0, 0))) := ⟨h1_⟩
    have n2_ : Aside0 (w22.heap[gb191]? = some (.cells #[.int .i64 t187, .int .i64 t188, .int .i64 t189] 28 (0, 0))) := ⟨h2_⟩
    have n3_ : Aside0 (Below w.heap.size w w22) := ⟨h3_⟩
    clear BK185
    clear BK186
    clear BK191
    clear HB
    clear h0_ h1_ h2_ h3_
    have BK185 := n0_
    have BK186 := n1_
    have BK191 := n2_
    have HB := n3_
    clear n0_ n1_ n2_ n3_
    have hHeld : w22.cell? ⟨gb191, 0, none⟩ = some (.int .i64 t187) ∧ w22.cell? ⟨gb191, 1, none⟩ = some (.int .i64 t188) ∧ w22.cell? ⟨gb191, 2, none⟩ = some (.int .i64 t189) := hS_
    refine norm_ (a' := ?_) ?_ ?_
    rotate_left
    ·simp only [putAll, Act.put, lstS, lstZ, lstC]
     rfl
    refine one_ (i := 25) (N := some 9) #[true, true, true, true, true, true, true, true, true, true, true, true, true, true, true, true, true, true, true, true, true, true, true, true, true, true, false, false] rfl rfl (one_of HT_.out (by kernel_rfl)) (by decide) (fun K hK => ?_)
    refine box_step ?hg (N := 9) ?hd (cs := #[.int .i64 0, .int .i64 0, .int .i64 0, .int .i64 0]) (t := 33) ?hr ?_; (case hd => rfl); (case hg => rfl); (case hr => first | (go_simp; done) | (go_simp; rfl))
    intro gb200 hg w23 hbox hb
    have BK200 := Aside0.mk (hbox)
    have GW200 := bs_ HB hg
    have GE200 := bs_ HB hg
    have NB185_200 := bm_ BK185 hg
    have NB200_185 := bn_ BK185 hg
    have NB186_200 := bm_ BK186 hg
    have NB200_186 := bn_ BK186 hg
    have NB191_200 := bm_ BK191 hg
    have NB200_191 := bn_ BK191 hg
    replace BK185 := bb_ BK185 hb
    replace BK186 := bb_ BK186 hb
    replace BK191 := bb_ BK191 hb
    replace HB := bt_ HB hb
    clear hb hbox hg
    refine hK.out _ _ ⟨(blk_cell BK191.out 0).trans rfl, (blk_cell BK191.out 1).trans rfl, (blk_cell BK191.out 2).trans rfl⟩ (fun hHeld => ?_)
    clear hK K
    refine norm_ (a' := ?_) ?_ ?_
    rotate_left
    ·show Act.put _ (some 9) _ = _
     simp only [Act.put, lstS, lstZ, lstC, i64_w, i32_w]
     rfl
    exact norm_ (by first | (simp only [putAll, Act.put, lstS, lstZ, lstC]; done) | (simp only [putAll, Act.put, lstS, lstZ, lstC]; rfl)) (hJ5_13_18_21_25 (gb200) _ ⟨hHeld, (bl_ BK185).out, (bl_ BK186).out, (bl_ BK191).out, (bl_ BK200).out, GW200.out, GE200.out, NB185_200.out, NB200_185.out, NB186_200.out, NB200_186.out, NB191_200.out, NB200_191.out, (bw_ HB).out⟩)
  rintro gb200 w23 ⟨hS_, h0_, h1_, h2_, h3_, h4_, h5_, h6_, h7_, h8_, h9_, h10_, h11_, h12_⟩
  have n0_ : Aside0 (w23.heap[gb185]? = some (.cells #[.int .i64 a1_0, .int .i64 a1_1, .int .i64 a1_2, .int .i64 a1_3] 33 (0, 0))) := ⟨h0_⟩
  have n1_ : Aside0 (w23.heap[gb186]? = some (.cells #[.int .i64 0, .int .i64 0, .int .i64 0, .int .i64 0] 33 (0, 0))) := ⟨h1_⟩
  have n2_ : Aside0 (w23.heap[gb191]? = some (.cells #[.int .i64 t187, .int .i64 t188, .int .i64 t189] 28 (0, 0))) := ⟨h2_⟩
  have n3_ : Aside0 (w23.heap[gb200]? = some (.cells #[.int .i64 0, .int .i64 0, .int .i64 0, .int .i64 0] 33 (0, 0))) := ⟨h3_⟩
  have n4_ : Aside0 (w.heap.size ≤ gb200) := ⟨h4_⟩
  have n5_ : Aside0 (w.heap.size ≤ gb200) := ⟨h5_⟩
  have n6_ : Aside0 (gb185 ≠ gb200) := ⟨h6_⟩
  have n7_ : Aside0 (gb200 ≠ gb185) := ⟨h7_⟩
  have n8_ : Aside0 (gb186 ≠ gb200) := ⟨h8_⟩
  have n9_ : Aside0 (gb200 ≠ gb186) := ⟨h9_⟩
  have n10_ : Aside0 (gb191 ≠ gb200) := ⟨h10_⟩
  have n11_ : Aside0 (gb200 ≠ gb191) := ⟨h11_⟩
  have n12_ : Aside0 (Below w.heap.size w w23) := ⟨h12_⟩
  clear BK185
  clear BK186
  clear BK191
  clear HB
  clear h0_ h1_ h2_ h3_ h4_ h5_ h6_ h7_ h8_ h9_ h10_ h11_ h12_
  have BK185 := n0_
  have BK186 := n1_
  have BK191 := n2_
  have BK200 := n3_
  have GW200 := n4_
  have GE200 := n5_
  have NB185_200 := n6_
  have NB200_185 := n7_
  have NB186_200 := n8_
  have NB200_186 := n9_
  have NB191_200 := n10_
  have NB200_191 := n11_
  have HB := n12_
  clear n0_ n1_ n2_ n3_ n4_ n5_ n6_ n7_ n8_ n9_ n10_ n11_ n12_
  have hHeld : w23.cell? ⟨gb191, 0, none⟩ = some (.int .i64 t187) ∧ w23.cell? ⟨gb191, 1, none⟩ = some (.int .i64 t188) ∧ w23.cell? ⟨gb191, 2, none⟩ = some (.int .i64 t189) := hS_
  refine norm_ (a' := ?_) ?_ ?_
  rotate_left
  ·simp only [putAll, Act.put, lstS, lstZ, lstC]
   rfl
  refine one_ (i := 26) (N := none) #[true, true, true, true, true, true, true, true, true, true, true, true, true, true, true, true, true, true, true, true, true, true, true, true, true, true, true, false] rfl rfl (one_of HT_.out (by kernel_rfl)) (by decide) (fun K hK => ?_)
  have hs24 : w23.cell? ⟨gb200, 0, none⟩ = some (.int .i64 0) := (blk_cell BK200.out 0).trans rfl
  have hfs24 := blk_frozen BK200.out 0
  have hns24_0 := NB185_200.out
  have hns24_1 := NB186_200.out
  have hns24_2 := NB191_200.out
  have hms24_0 := NB200_185.out
  have hms24_1 := NB200_186.out
  have hms24_2 := NB200_191.out
  have hs25 : w23.cell? ⟨gb200, 1, none⟩ = some (.int .i64 0) := (blk_cell BK200.out 1).trans rfl
  have hfs25 := blk_frozen BK200.out 1
  have hns25_0 := NB185_200.out
  have hns25_1 := NB186_200.out
  have hns25_2 := NB191_200.out
  have hms25_0 := NB200_185.out
  have hms25_1 := NB200_186.out
  have hms25_2 := NB200_191.out
  have hs26 : w23.cell? ⟨gb200, 2, none⟩ = some (.int .i64 0) := (blk_cell BK200.out 2).trans rfl
  have hfs26 := blk_frozen BK200.out 2
  have hns26_0 := NB185_200.out
  have hns26_1 := NB186_200.out
  have hns26_2 := NB191_200.out
  have hms26_0 := NB200_185.out
  have hms26_1 := NB200_186.out
  have hms26_2 := NB200_191.out
  have hs27 : w23.cell? ⟨gb200, 3, none⟩ = some (.int .i64 0) := (blk_cell BK200.out 3).trans rfl
  have hfs27 := blk_frozen BK200.out 3
  have hns27_0 := NB185_200.out
  have hns27_1 := NB186_200.out
  have hns27_2 := NB191_200.out
  have hms27_0 := NB200_185.out
  have hms27_1 := NB200_186.out
  have hms27_2 := NB200_191.out
  refine skip_ (w1 := ?_) (by rfl) rfl ?_ ?_
  rotate_left
  ·go_simp
   rfl
  refine hK.out _ _ ⟨((cell_far (p := ⟨gb200, _, none⟩) NB191_200.out _).trans (((cell_far (p := ⟨gb200, _, none⟩) NB191_200.out _).trans (((cell_far (p := ⟨gb200, _, none⟩) NB191_200.out _).trans (((cell_far (p := ⟨gb200, _, none⟩) NB191_200.out _).trans (hHeld.1)))))))), ((cell_far (p := ⟨gb200, _, none⟩) NB191_200.out _).trans (((cell_far (p := ⟨gb200, _, none⟩) NB191_200.out _).trans (((cell_far (p := ⟨gb200, _, none⟩) NB191_200.out _).trans (((cell_far (p := ⟨gb200, _, none⟩) NB191_200.out _).trans (hHeld.2.1)))))))), ((cell_far (p := ⟨gb200, _, none⟩) NB191_200.out _).trans (((cell_far (p := ⟨gb200, _, none⟩) NB191_200.out _).trans (((cell_far (p := ⟨gb200, _, none⟩) NB191_200.out _).trans (((cell_far (p := ⟨gb200, _, none⟩) NB191_200.out _).trans (hHeld.2.2))))))))⟩ (fun hHeld => ?_)
  clear hK K
  refine pu_ HT_ 27 (some 10) #[true, true, true, true, true, true, true, true, true, true, true, true, true, true, true, true, true, true, true, true, true, true, true, true, true, true, true, true] ?_
  refine done_ (done_of HT_.out (by kernel_rfl)) ?_
  have hnb28 := NB200_185.out
  have hnc28 := NB185_200.out
  have hnb29 := NB200_186.out
  have hnc29 := NB186_200.out
  have hnb30 := NB200_191.out
  have hnc30 := NB191_200.out
  have hcz31_0 : w23.cell? ⟨gb200, 0, none⟩ = some (.int .i64 0) := (blk_cell BK200.out 0).trans rfl
  have hcz31_1 : w23.cell? ⟨gb200, 1, none⟩ = some (.int .i64 0) := (blk_cell BK200.out 1).trans rfl
  have hcz31_2 : w23.cell? ⟨gb200, 2, none⟩ = some (.int .i64 0) := (blk_cell BK200.out 2).trans rfl
  have hcz31_3 : w23.cell? ⟨gb200, 3, none⟩ = some (.int .i64 0) := (blk_cell BK200.out 3).trans rfl
  have hfz31_0 := blk_frozen BK200.out 0
  have hfz31_1 := blk_frozen BK200.out 1
  have hfz31_2 := blk_frozen BK200.out 2
  have hfz31_3 := blk_frozen BK200.out 3
  have hcz32_0 : w23.cell? ⟨gb186, 0, none⟩ = some (.int .i64 0) := (blk_cell BK186.out 0).trans rfl
  have hcz32_1 : w23.cell? ⟨gb186, 1, none⟩ = some (.int .i64 0) := (blk_cell BK186.out 1).trans rfl
  have hcz32_2 : w23.cell? ⟨gb186, 2, none⟩ = some (.int .i64 0) := (blk_cell BK186.out 2).trans rfl
  have hcz32_3 : w23.cell? ⟨gb186, 3, none⟩ = some (.int .i64 0) := (blk_cell BK186.out 3).trans rfl
  have hfz32_0 := blk_frozen BK186.out 0
  have hfz32_1 := blk_frozen BK186.out 1
  have hfz32_2 := blk_frozen BK186.out 2
  have hfz32_3 := blk_frozen BK186.out 3
  try go_wp2
  refine bodyPost_ret (results_ct rfl _ _ gb186 33 #[.int .i64 t195, .int .i64 t196, .int .i64 t197, .int .i64 t198] (0, 0) _ rfl (by (with_reducible repeat first | apply blk_drewN | apply blk_drew | apply blk_alloc); refine blk_put (cs := #[.int .i64 t195, .int .i64 t196, .int .i64 t197, .int .i64 0]) ?_ 3 _ rfl; (with_reducible repeat first | apply blk_drewN | apply blk_drew | apply blk_alloc); refine blk_put (cs := #[.int .i64 t195, .int .i64 t196, .int .i64 0, .int .i64 0]) ?_ 2 _ rfl; (with_reducible repeat first | apply blk_drewN | apply blk_drew | apply blk_alloc); refine blk_put (cs := #[.int .i64 t195, .int .i64 0, .int .i64 0, .int .i64 0]) ?_ 1 _ rfl; (with_reducible repeat first | apply blk_drewN | apply blk_drew | apply blk_alloc); refine blk_put (cs := #[.int .i64 0, .int .i64 0, .int .i64 0, .int .i64 0]) ?_ 0 _ rfl; (with_reducible repeat first | apply blk_drewN | apply blk_drew | apply blk_alloc); refine blk_far ?_ NB186_200.out _; (with_reducible repeat first | apply blk_drewN | apply blk_drew | apply blk_alloc); refine blk_far ?_ NB186_200.out _; (with_reducible repeat first | apply blk_drewN | apply blk_drew | apply blk_alloc); refine blk_far ?_ NB186_200.out _; (with_reducible repeat first | apply blk_drewN | apply blk_drew | apply blk_alloc); refine blk_far ?_ NB186_200.out _; (with_reducible repeat first | apply blk_drewN | apply blk_drew | apply blk_alloc); exact BK186.out) Try.underlying33 rfl (by kernel_rfl)) rfl ?_
  exact ⟨by first | rfl | (simp [errW_none, errW_some] <;> rfl) | (simp only [← hji5]; first | rfl | (simp [errW_none, errW_some] <;> rfl)) | (simp [*, errW_none, errW_some] <;> rfl), by repeat (first | (with_reducible first | exact HB.out | apply below_alloc | apply pw_below_drewN | apply below_drew1 | refine below_set ?_ GE185.out | refine below_set ?_ GE186.out | refine below_set ?_ GE191.out | refine below_set ?_ GE200.out) | exact HB.out)⟩
 ·replace c4 := Bool.eq_false_iff.mpr c4
  subst c4
  have H1 : (some (0, 0, 0, 0, false)) = some (r1, r2, r3, r4, r5) := by rw [if_neg (show ¬ (false = true) by decide)] at H; exact H
  clear H
  have H := H1
  clear H1
  simp only [Option.some.injEq, Prod.mk.injEq] at H
  obtain ⟨rfl, rfl, rfl, rfl, rfl⟩ := H
  go_enter Try.func43, Try.ntmps43
  go_wp2_with (first | ((with_reducible refine gate_dst (N := 3) rfl ?_); refine bx_ 3 #[.int .i64 a1_0, .int .i64 a1_1, .int .i64 a1_2, .int .i64 a1_3] 33 ?_; intro gb185 hg w33 hbox hb; have BK185 := Aside0.mk (hbox); have GW185 := bs_ HB hg; have GE185 := bs_ HB hg; replace HB := bt_ HB hb; clear hb hbox hg) | ((with_reducible refine gate_dst (N := 4) rfl ?_); refine bx_ 4 #[.int .i64 0, .int .i64 0, .int .i64 0, .int .i64 0] 33 ?_; intro gb186 hg w34 hbox hb; have BK186 := Aside0.mk (hbox); have GW186 := bs_ HB hg; have GE186 := bs_ HB hg; have NB185_186 := bm_ BK185 hg; have NB186_185 := bn_ BK185 hg; replace BK185 := bb_ BK185 hb; replace HB := bt_ HB hb; clear hb hbox hg; have hnb35 := NB185_186.out; have hnc35 := NB186_185.out; have hcz36_0 : w34.cell? ⟨gb185, 0, none⟩ = some (.int .i64 a1_0) := (blk_cell BK185.out 0).trans rfl; have hcz36_1 : w34.cell? ⟨gb185, 1, none⟩ = some (.int .i64 a1_1) := (blk_cell BK185.out 1).trans rfl; have hcz36_2 : w34.cell? ⟨gb185, 2, none⟩ = some (.int .i64 a1_2) := (blk_cell BK185.out 2).trans rfl; have hcz36_3 : w34.cell? ⟨gb185, 3, none⟩ = some (.int .i64 a1_3) := (blk_cell BK185.out 3).trans rfl; have hfz36_0 := blk_frozen BK185.out 0; have hfz36_1 := blk_frozen BK185.out 1; have hfz36_2 := blk_frozen BK185.out 2; have hfz36_3 := blk_frozen BK185.out 3) | ((with_reducible refine gate_callee (f := 52) rfl ?_); refine goesL_ (some 15) rfl rfl Try.func52 (by kernel_rfl) rfl #[.int .i64 a0, .agg #[.int .i64 a1_0, .int .i64 a1_1, .int .i64 a1_2, .int .i64 a1_3], .agg #[.int .i64 0, .int .i64 0, .int .i64 0]] rfl (by (try simp only [List.map_toArray, List.map_cons, List.map_nil]); first | done | rfl | (simp only [List.length_drop, List.length_take]; rfl)) ?_; (with_reducible refine (spec_l04Move.calls k a0 a1_0 a1_1 a1_2 a1_3 0 0 0 t187 t188 t189 false _ A3.out).mono ?_); rintro e w37 ⟨rfl, hb⟩; refine ⟨_, rfl, ?_⟩; replace BK185 := bb_ BK185 hb; replace BK186 := bb_ BK186 hb; replace HB := bt_ HB hb; (try clear hb); (try clear hb2); (try clear hk); (try clear hi)) | ((with_reducible refine gate_dst (N := 6) rfl ?_); refine bx_ 6 #[.int .i64 0, .int .i64 0, .int .i64 0] 28 ?_; intro gb191 hg w38 hbox hb; have BK191 := Aside0.mk (hbox); have GW191 := bs_ HB hg; have GE191 := bs_ HB hg; have NB185_191 := bm_ BK185 hg; have NB191_185 := bn_ BK185 hg; have NB186_191 := bm_ BK186 hg; have NB191_186 := bn_ BK186 hg; replace BK185 := bb_ BK185 hb; replace BK186 := bb_ BK186 hb; replace HB := bt_ HB hb; clear hb hbox hg; have hnb39 := NB191_185.out; have hnc39 := NB185_191.out; have hnb40 := NB191_186.out; have hnc40 := NB186_191.out; have hcz41_0 : w38.cell? ⟨gb191, 0, none⟩ = some (.int .i64 0) := (blk_cell BK191.out 0).trans rfl; have hcz41_1 : w38.cell? ⟨gb191, 1, none⟩ = some (.int .i64 0) := (blk_cell BK191.out 1).trans rfl; have hcz41_2 : w38.cell? ⟨gb191, 2, none⟩ = some (.int .i64 0) := (blk_cell BK191.out 2).trans rfl; have hfz41_0 := blk_frozen BK191.out 0; have hfz41_1 := blk_frozen BK191.out 1; have hfz41_2 := blk_frozen BK191.out 2; have hcz42_0 : w38.cell? ⟨gb186, 0, none⟩ = some (.int .i64 0) := (blk_cell BK186.out 0).trans rfl; have hcz42_1 : w38.cell? ⟨gb186, 1, none⟩ = some (.int .i64 0) := (blk_cell BK186.out 1).trans rfl; have hcz42_2 : w38.cell? ⟨gb186, 2, none⟩ = some (.int .i64 0) := (blk_cell BK186.out 2).trans rfl; have hcz42_3 : w38.cell? ⟨gb186, 3, none⟩ = some (.int .i64 0) := (blk_cell BK186.out 3).trans rfl; have hfz42_0 := blk_frozen BK186.out 0; have hfz42_1 := blk_frozen BK186.out 1; have hfz42_2 := blk_frozen BK186.out 2; have hfz42_3 := blk_frozen BK186.out 3))
  refine bodyPost_ret (results_ct rfl _ _ gb186 33 #[.int .i64 0, .int .i64 0, .int .i64 0, .int .i64 0] (0, 0) _ rfl (by (with_reducible repeat first | apply blk_drewN | apply blk_drew | apply blk_alloc); refine blk_put (cs := #[.int .i64 0, .int .i64 0, .int .i64 0, .int .i64 0]) ?_ 3 _ rfl; (with_reducible repeat first | apply blk_drewN | apply blk_drew | apply blk_alloc); refine blk_put (cs := #[.int .i64 0, .int .i64 0, .int .i64 0, .int .i64 0]) ?_ 2 _ rfl; (with_reducible repeat first | apply blk_drewN | apply blk_drew | apply blk_alloc); refine blk_put (cs := #[.int .i64 0, .int .i64 0, .int .i64 0, .int .i64 0]) ?_ 1 _ rfl; (with_reducible repeat first | apply blk_drewN | apply blk_drew | apply blk_alloc); refine blk_put (cs := #[.int .i64 0, .int .i64 0, .int .i64 0, .int .i64 0]) ?_ 0 _ rfl; (with_reducible repeat first | apply blk_drewN | apply blk_drew | apply blk_alloc); refine blk_far ?_ NB186_191.out _; (with_reducible repeat first | apply blk_drewN | apply blk_drew | apply blk_alloc); refine blk_far ?_ NB186_191.out _; (with_reducible repeat first | apply blk_drewN | apply blk_drew | apply blk_alloc); refine blk_far ?_ NB186_191.out _; (with_reducible repeat first | apply blk_drewN | apply blk_drew | apply blk_alloc); exact BK186.out) Try.underlying33 rfl (by kernel_rfl)) rfl ?_
  exact ⟨by first | rfl | (simp [errW_none, errW_some] <;> rfl) | (simp [*, errW_none, errW_some] <;> rfl), by repeat (first | (with_reducible first | exact HB.out | apply below_alloc | apply pw_below_drewN | apply below_drew1 | refine below_set ?_ GE185.out | refine below_set ?_ GE186.out | refine below_set ?_ GE191.out) | exact HB.out)⟩
end Go.Proofs.Ytojpcbbmbnmchaa.QC
