-- Written by a program of this session out of Lean's own print of the loaded program; Lean checks it.
import Derived.Test.YtojpcbbmbnmchaaQCx4
import Derived.Test.YtojpcbbmbnmchaaQCx38
import Derived.Test.YtojpcbbmbnmchaaQCx47
import Derived.Test.YtojpcbbmbnmchaaQCx49
namespace Go.Proofs.Ytojpcbbmbnmchaa.QC
open Go.RowKit Go.Proofs.YtojpcbbmbnmchaaW.PrintWords Go.Proofs.YtojpcbbmbnmchaaW.PrintLast Go.Proofs.YtojpcbbmbnmchaaW.PrintMore
attribute [local go_sem] isSome_setCell max2_int min2_int max_two min_two max_three min_three max_four min_four   -- for this text's walks alone
set_option linter.unusedVariables false
set_option linter.unusedSimpArgs false

/-! ### impl_triangular: function 46 -/
def impl_triangular.f (k : Nat) (a0 : Int) (a1_0 : Int) (a1_1 : Int) (a1_2 : Int) (a1_3 : Int) : Option (Int × Int × Int × Int × Bool) := (impl_moveBall.f k a0 a1_0 a1_1 a1_2 a1_3 0 0 0).bind fun bt311 => (if bt311.2.2.2 = true then ((impl_power.f k a0 (wrap64 (bt311.1 + (mx (mx 0 (wrap64 (-bt311.1))) bt311.2.2.1)))).bind fun t316 => ((impl_power.f k a0 (wrap64 ((mx (mx 0 (wrap64 (-bt311.1))) bt311.2.2.1) - bt311.2.2.1))).bind fun t317 => ((impl_power.f k a0 (mx (mx 0 (wrap64 (-bt311.1))) bt311.2.2.1)).bind fun t318 => ((impl_reduced.f k t316 (wrap64 (bt311.2.1 * t317)) 0 t318).bind fun bt319 => (some (bt319.1, bt319.2.1, bt319.2.2.1, bt319.2.2.2.1, bt319.2.2.2.2)))))) else (some (0, 0, 0, 0, false)))
def impl_triangular.T5 : Bool × List (List Nat × List Nat) := (true, [([], []), ([], []), ([1], [1]), ([], []), ([2, 3], [2, 3]), ([0, 4], [0, 4]), ([], []), ([6], [6]), ([], []), ([], []), ([], []), ([10], [10]), ([9, 11], [9, 11]), ([8, 12, 5], [8, 12]), ([7, 13], [7, 13]), ([5, 14], [5, 14]), ([], []), ([], []), ([16, 17, 13], [16, 17]), ([18], [18]), ([15, 19], [15, 19]), ([20, 18], [20]), ([21], [21]), ([21], [21]), ([22, 21, 0, 1, 2, 3, 4, 5, 6, 7, 8, 9, 10, 11, 12, 13, 14, 15, 16, 17, 18, 19, 20, 21, 22, 23], [22]), ([23, 24, 0, 1, 2, 3, 4, 5, 6, 7, 8, 9, 10, 11, 12, 13, 14, 15, 16, 17, 18, 19, 20, 21, 22, 23, 24], [23])])
def impl_triangular.B5 : List Nat := [0, 0, 2, 0, 14, 31, 0, 64, 0, 0, 0, 1024, 3584, 7999, 16383, 32767, 0, 0, 212799, 474943, 1048575, 2097151, 4194303, 4194303, 16777215, 33554431]
theorem impl_triangular.tab5 : rtab .any (opsOf Try.f46 5) = impl_triangular.T5 := by kernel_rfl
theorem impl_triangular.bits5 : waitsOk impl_triangular.T5.2 impl_triangular.B5 = true := by kernel_rfl
set_option maxHeartbeats 8000000 in
set_option maxRecDepth 100000 in
theorem impl_triangular.calls (k : Nat) (a0 : Int) (a1_0 : Int) (a1_1 : Int) (a1_2 : Int) (a1_3 : Int) (r1 : Int) (r2 : Int) (r3 : Int) (r4 : Int) (r5 : Bool) (w : World) (h : impl_triangular.f k a0 a1_0 a1_1 a1_2 a1_3 = some (r1, r2, r3, r4, r5)) :
  Calls Try.prog 46 #[.int .i64 a0, .agg #[.int .i64 a1_0, .int .i64 a1_1, .int .i64 a1_2, .int .i64 a1_3]] w fun e w' => e = .returned (.tuple #[.agg #[.int .i64 r1, .int .i64 r2, .int .i64 r3, .int .i64 r4], .bool r5]) ∧ Below w.heap.size w w' := by
 have hu33 := Try.underlying33
 have hu28 := Try.underlying28
 have hu22 := Try.underlying22
 have HB := Aside0.mk (Below.refl w.heap.size w)
 have H : ((impl_moveBall.f k a0 a1_0 a1_1 a1_2 a1_3 0 0 0).bind fun bt311 => (if bt311.2.2.2 = true then ((impl_power.f k a0 (wrap64 (bt311.1 + (mx (mx 0 (wrap64 (-bt311.1))) bt311.2.2.1)))).bind fun t316 => ((impl_power.f k a0 (wrap64 ((mx (mx 0 (wrap64 (-bt311.1))) bt311.2.2.1) - bt311.2.2.1))).bind fun t317 => ((impl_power.f k a0 (mx (mx 0 (wrap64 (-bt311.1))) bt311.2.2.1)).bind fun t318 => ((impl_reduced.f k t316 (wrap64 (bt311.2.1 * t317)) 0 t318).bind fun bt319 => (some (bt319.1, bt319.2.1, bt319.2.2.1, bt319.2.2.2.1, bt319.2.2.2.2)))))) else (some (0, 0, 0, 0, false)))) = some (r1, r2, r3, r4, r5) := h
 clear h
 replace H := Option.bind_eq_some_iff.mp H
 obtain ⟨⟨t311, t312, t313, t314⟩, A30, H⟩ := H
 have A3 := Aside0.mk A30
 clear A30
 by_cases c4 : t314 = true
 ·subst c4
  have H1 : ((impl_power.f k a0 (wrap64 (t311 + (mx (mx 0 (wrap64 (-t311))) t313)))).bind fun t316 => ((impl_power.f k a0 (wrap64 ((mx (mx 0 (wrap64 (-t311))) t313) - t313))).bind fun t317 => ((impl_power.f k a0 (mx (mx 0 (wrap64 (-t311))) t313)).bind fun t318 => ((impl_reduced.f k t316 (wrap64 (t312 * t317)) 0 t318).bind fun bt319 => (some (bt319.1, bt319.2.1, bt319.2.2.1, bt319.2.2.2.1, bt319.2.2.2.2)))))) = some (r1, r2, r3, r4, r5) := by rw [if_pos rfl] at H; exact H
  clear H
  have H := H1
  clear H1
  obtain ⟨ji5, hji5⟩ : ∃ j_ : Int, (mx 0 (wrap64 (-t311))) = j_ := ⟨_, rfl⟩
  replace H : ((impl_power.f k a0 (wrap64 (t311 + (mx (ji5) t313)))).bind fun t316 => ((impl_power.f k a0 (wrap64 ((mx (ji5) t313) - t313))).bind fun t317 => ((impl_power.f k a0 (mx (ji5) t313)).bind fun t318 => ((impl_reduced.f k t316 (wrap64 (t312 * t317)) 0 t318).bind fun bt319 => (some (bt319.1, bt319.2.1, bt319.2.2.1, bt319.2.2.2.1, bt319.2.2.2.2)))))) = some (r1, r2, r3, r4, r5) := by first | (rw [hji5] at H; exact H) | (simp only [hji5] at H ⊢; exact H)
  (try rw [hji5] at A3)
  (try (have hji5l : 0 ≤ ji5 := by (rw [← hji5]; unfold mx; (repeat' split) <;> omega)))
  (try (have hji5m : 0 ≤ ji5 := by omega))
  have hji5_k : (if 0 < (IntKind.i64.wrap (-t311)) then (IntKind.i64.wrap (-t311)) else 0) = ji5 := by simp only [i64_w]; exact hji5
  have hji5_ : (if 0 < (wrap64 (-t311)) then (wrap64 (-t311)) else 0) = ji5 := hji5
  obtain ⟨ji6, hji6⟩ : ∃ j_ : Int, (mx (ji5) t313) = j_ := ⟨_, rfl⟩
  replace H : ((impl_power.f k a0 (wrap64 (t311 + (ji6)))).bind fun t316 => ((impl_power.f k a0 (wrap64 ((ji6) - t313))).bind fun t317 => ((impl_power.f k a0 (ji6)).bind fun t318 => ((impl_reduced.f k t316 (wrap64 (t312 * t317)) 0 t318).bind fun bt319 => (some (bt319.1, bt319.2.1, bt319.2.2.1, bt319.2.2.2.1, bt319.2.2.2.2)))))) = some (r1, r2, r3, r4, r5) := by first | (rw [hji6] at H; exact H) | (simp only [hji6] at H ⊢; exact H)
  (try rw [hji6] at A3)
  have hji6_ : (if (ji5) < t313 then t313 else (ji5)) = ji6 := hji6
  replace H := Option.bind_eq_some_iff.mp H
  obtain ⟨t316, A70, H⟩ := H
  have A7 := Aside0.mk A70
  clear A70
  replace H := Option.bind_eq_some_iff.mp H
  obtain ⟨t317, A80, H⟩ := H
  have A8 := Aside0.mk A80
  clear A80
  replace H := Option.bind_eq_some_iff.mp H
  obtain ⟨t318, A90, H⟩ := H
  have A9 := Aside0.mk A90
  clear A90
  replace H := Option.bind_eq_some_iff.mp H
  obtain ⟨⟨t319, t320, t321, t322, t323⟩, A100, H⟩ := H
  have A10 := Aside0.mk A100
  clear A100
  simp only [Option.some.injEq, Prod.mk.injEq] at H
  obtain ⟨rfl, rfl, rfl, rfl, rfl⟩ := H
  go_enter Try.func46, Try.ntmps46
  try go_wp2_with (first | ((with_reducible refine gate_dst (N := 3) rfl ?_); refine bx_ 3 #[.int .i64 a1_0, .int .i64 a1_1, .int .i64 a1_2, .int .i64 a1_3] 33 ?_; intro gb309 hg w11 hbox hb; have BK309 := Aside0.mk (hbox); have GW309 := bs_ HB hg; have GE309 := bs_ HB hg; replace HB := bt_ HB hb; clear hb hbox hg) | ((with_reducible refine gate_dst (N := 4) rfl ?_); refine bx_ 4 #[.int .i64 0, .int .i64 0, .int .i64 0, .int .i64 0] 33 ?_; intro gb310 hg w12 hbox hb; have BK310 := Aside0.mk (hbox); have GW310 := bs_ HB hg; have GE310 := bs_ HB hg; have NB309_310 := bm_ BK309 hg; have NB310_309 := bn_ BK309 hg; replace BK309 := bb_ BK309 hb; replace HB := bt_ HB hb; clear hb hbox hg; have hnb13 := NB309_310.out; have hnc13 := NB310_309.out; have hcz14_0 : w12.cell? ⟨gb309, 0, none⟩ = some (.int .i64 a1_0) := (blk_cell BK309.out 0).trans rfl; have hcz14_1 : w12.cell? ⟨gb309, 1, none⟩ = some (.int .i64 a1_1) := (blk_cell BK309.out 1).trans rfl; have hcz14_2 : w12.cell? ⟨gb309, 2, none⟩ = some (.int .i64 a1_2) := (blk_cell BK309.out 2).trans rfl; have hcz14_3 : w12.cell? ⟨gb309, 3, none⟩ = some (.int .i64 a1_3) := (blk_cell BK309.out 3).trans rfl; have hfz14_0 := blk_frozen BK309.out 0; have hfz14_1 := blk_frozen BK309.out 1; have hfz14_2 := blk_frozen BK309.out 2; have hfz14_3 := blk_frozen BK309.out 3) | ((with_reducible refine gate_callee (f := 54) rfl ?_); refine goesL_ (some 13) rfl rfl Try.func54 (by kernel_rfl) rfl #[.int .i64 a0, .agg #[.int .i64 a1_0, .int .i64 a1_1, .int .i64 a1_2, .int .i64 a1_3], .agg #[.int .i64 0, .int .i64 0, .int .i64 0]] rfl (by (try simp only [List.map_toArray, List.map_cons, List.map_nil]); first | done | rfl | (simp only [List.length_drop, List.length_take]; rfl)) ?_; (with_reducible refine (impl_moveBall.calls k a0 a1_0 a1_1 a1_2 a1_3 0 0 0 t311 t312 t313 true _ A3.out).mono ?_); rintro e w15 ⟨rfl, hb⟩; refine ⟨_, rfl, ?_⟩; replace BK309 := bb_ BK309 hb; replace BK310 := bb_ BK310 hb; replace HB := bt_ HB hb; (try clear hb); (try clear hb2); (try clear hk); (try clear hi)) | ((with_reducible refine gate_dst (N := 6) rfl ?_); refine bx_ 6 #[.int .i64 0, .int .i64 0, .int .i64 0] 28 ?_; intro gb315 hg w16 hbox hb; have BK315 := Aside0.mk (hbox); have GW315 := bs_ HB hg; have GE315 := bs_ HB hg; have NB309_315 := bm_ BK309 hg; have NB315_309 := bn_ BK309 hg; have NB310_315 := bm_ BK310 hg; have NB315_310 := bn_ BK310 hg; replace BK309 := bb_ BK309 hb; replace BK310 := bb_ BK310 hb; replace HB := bt_ HB hb; clear hb hbox hg; have hnb17 := NB315_309.out; have hnc17 := NB309_315.out; have hnb18 := NB315_310.out; have hnc18 := NB310_315.out; have hcz19_0 : w16.cell? ⟨gb315, 0, none⟩ = some (.int .i64 0) := (blk_cell BK315.out 0).trans rfl; have hcz19_1 : w16.cell? ⟨gb315, 1, none⟩ = some (.int .i64 0) := (blk_cell BK315.out 1).trans rfl; have hcz19_2 : w16.cell? ⟨gb315, 2, none⟩ = some (.int .i64 0) := (blk_cell BK315.out 2).trans rfl; have hfz19_0 := blk_frozen BK315.out 0; have hfz19_1 := blk_frozen BK315.out 1; have hfz19_2 := blk_frozen BK315.out 2))
  have n0_ : Aside0 ((((w16.setCell ⟨gb315, 0, none⟩ (.int .i64 t311)).setCell ⟨gb315, 1, none⟩ (.int .i64 t312)).setCell ⟨gb315, 2, none⟩ (.int .i64 t313)).heap[gb309]? = some (.cells #[.int .i64 a1_0, .int .i64 a1_1, .int .i64 a1_2, .int .i64 a1_3] 33 (0, 0))) := ⟨by (with_reducible repeat first | apply blk_drewN | apply blk_drew | apply blk_alloc); refine blk_far ?_ NB309_315.out _; (with_reducible repeat first | apply blk_drewN | apply blk_drew | apply blk_alloc); refine blk_far ?_ NB309_315.out _; (with_reducible repeat first | apply blk_drewN | apply blk_drew | apply blk_alloc); refine blk_far ?_ NB309_315.out _; (with_reducible repeat first | apply blk_drewN | apply blk_drew | apply blk_alloc); exact BK309.out⟩
  have n1_ : Aside0 ((((w16.setCell ⟨gb315, 0, none⟩ (.int .i64 t311)).setCell ⟨gb315, 1, none⟩ (.int .i64 t312)).setCell ⟨gb315, 2, none⟩ (.int .i64 t313)).heap[gb310]? = some (.cells #[.int .i64 0, .int .i64 0, .int .i64 0, .int .i64 0] 33 (0, 0))) := ⟨by (with_reducible repeat first | apply blk_drewN | apply blk_drew | apply blk_alloc); refine blk_far ?_ NB310_315.out _; (with_reducible repeat first | apply blk_drewN | apply blk_drew | apply blk_alloc); refine blk_far ?_ NB310_315.out _; (with_reducible repeat first | apply blk_drewN | apply blk_drew | apply blk_alloc); refine blk_far ?_ NB310_315.out _; (with_reducible repeat first | apply blk_drewN | apply blk_drew | apply blk_alloc); exact BK310.out⟩
  have n2_ : Aside0 ((((w16.setCell ⟨gb315, 0, none⟩ (.int .i64 t311)).setCell ⟨gb315, 1, none⟩ (.int .i64 t312)).setCell ⟨gb315, 2, none⟩ (.int .i64 t313)).heap[gb315]? = some (.cells #[.int .i64 t311, .int .i64 t312, .int .i64 t313] 28 (0, 0))) := ⟨by (with_reducible repeat first | apply blk_drewN | apply blk_drew | apply blk_alloc); refine blk_put (cs := #[.int .i64 t311, .int .i64 t312, .int .i64 0]) ?_ 2 _ rfl; (with_reducible repeat first | apply blk_drewN | apply blk_drew | apply blk_alloc); refine blk_put (cs := #[.int .i64 t311, .int .i64 0, .int .i64 0]) ?_ 1 _ rfl; (with_reducible repeat first | apply blk_drewN | apply blk_drew | apply blk_alloc); refine blk_put (cs := #[.int .i64 0, .int .i64 0, .int .i64 0]) ?_ 0 _ rfl; (with_reducible repeat first | apply blk_drewN | apply blk_drew | apply blk_alloc); exact BK315.out⟩
  have n3_ : Aside0 (Below w.heap.size w (((w16.setCell ⟨gb315, 0, none⟩ (.int .i64 t311)).setCell ⟨gb315, 1, none⟩ (.int .i64 t312)).setCell ⟨gb315, 2, none⟩ (.int .i64 t313))) := bw_ HB
  (try clear BK309)
  (try clear BK310)
  (try clear BK315)
  (try clear HB)
  generalize (((w16.setCell ⟨gb315, 0, none⟩ (.int .i64 t311)).setCell ⟨gb315, 1, none⟩ (.int .i64 t312)).setCell ⟨gb315, 2, none⟩ (.int .i64 t313)) = w20 at n0_ n1_ n2_ n3_ ⊢
  have BK309 := n0_
  have BK310 := n1_
  have BK315 := n2_
  have HB := n3_
  clear n0_ n1_ n2_ n3_
  replace BK309 := Aside0.mk (blk_drew BK309.out)
  replace BK310 := Aside0.mk (blk_drew BK310.out)
  replace BK315 := Aside0.mk (blk_drew BK315.out)
  replace HB := Aside0.mk (below_drew1 HB.out)
  refine start_ (n := 26) (S := fun w' => w'.cell? ⟨gb315, 0, none⟩ = some (.int .i64 t311) ∧ w'.cell? ⟨gb315, 1, none⟩ = some (.int .i64 t312) ∧ w'.cell? ⟨gb315, 2, none⟩ = some (.int .i64 t313)) (ds := []) #[false, false, false, false, false, false, false, false, false, false, false, false, false, false, false, false, false, false, false, false, false, false, false, false, false, false] (by kernel_rfl) rfl rfl ⟨(blk_cell BK315.out 0).trans rfl, (blk_cell BK315.out 1).trans rfl, (blk_cell BK315.out 2).trans rfl⟩ (fun hHeld => ?_); refine with_tabW impl_triangular.tab5 impl_triangular.bits5 (fun HT_ HW_ => ?_)
  generalize w20.drew = w21 at BK309 BK310 BK315 HB hHeld ⊢
  refine pu_ HT_ 0 (some 25) #[true, false, false, false, false, false, false, false, false, false, false, false, false, false, false, false, false, false, false, false, false, false, false, false, false, false] ?_
  refine pu_ HT_ 1 (some 26) #[true, true, false, false, false, false, false, false, false, false, false, false, false, false, false, false, false, false, false, false, false, false, false, false, false, false] ?_
  refine pu_ HT_ 3 (some 28) #[true, true, false, true, false, false, false, false, false, false, false, false, false, false, false, false, false, false, false, false, false, false, false, false, false, false] ?_
  refine pu_ HT_ 6 (some 31) #[true, true, false, true, false, false, true, false, false, false, false, false, false, false, false, false, false, false, false, false, false, false, false, false, false, false] ?_
  refine pu_ HT_ 8 (some 33) #[true, true, false, true, false, false, true, false, true, false, false, false, false, false, false, false, false, false, false, false, false, false, false, false, false, false] ?_
  refine pu_ HT_ 9 (some 34) #[true, true, false, true, false, false, true, false, true, true, false, false, false, false, false, false, false, false, false, false, false, false, false, false, false, false] ?_
  refine pu_ HT_ 10 (some 35) #[true, true, false, true, false, false, true, false, true, true, true, false, false, false, false, false, false, false, false, false, false, false, false, false, false, false] ?_
  refine pu_ HT_ 16 (some 41) #[true, true, false, true, false, false, true, false, true, true, true, false, false, false, false, false, true, false, false, false, false, false, false, false, false, false] ?_
  refine pu_ HT_ 17 (some 42) #[true, true, false, true, false, false, true, false, true, true, true, false, false, false, false, false, true, true, false, false, false, false, false, false, false, false] ?_
  refine ta_ HT_ HW_ 2 (some 27) #[true, true, true, true, false, false, true, false, true, true, true, false, false, false, false, false, true, true, false, false, false, false, false, false, false, false] hHeld ?_ (hy := by rintro w' ⟨s0, s1, s2⟩; go_simp; with_reducible rfl)
  refine pu_ HT_ 4 (some 29) #[true, true, true, true, true, false, true, false, true, true, true, false, false, false, false, false, true, true, false, false, false, false, false, false, false, false] ?_
  refine ta_ HT_ HW_ 7 (some 32) #[true, true, true, true, true, false, true, true, true, true, true, false, false, false, false, false, true, true, false, false, false, false, false, false, false, false] hHeld ?_ (hy := by rintro w' ⟨s0, s1, s2⟩; go_simp; with_reducible rfl)
  refine ta_ HT_ HW_ 11 (some 36) #[true, true, true, true, true, false, true, true, true, true, true, true, false, false, false, false, true, true, false, false, false, false, false, false, false, false] hHeld ?_ (hy := by rintro w' ⟨s0, s1, s2⟩; go_simp; with_reducible rfl)
  refine pu_ HT_ 12 (some 37) #[true, true, true, true, true, false, true, true, true, true, true, true, true, false, false, false, true, true, false, false, false, false, false, false, false, false] ?_
  refine one_ (i := 5) (N := some 30) #[true, true, true, true, true, true, true, true, true, true, true, true, true, false, false, false, true, true, false, false, false, false, false, false, false, false] rfl rfl (one_of HT_.out (by kernel_rfl)) (by decide) (fun K hK => ?_)
  refine goes_ Try.func80 (by kernel_rfl) rfl #[.int .i64 a0, .int .i64 (wrap64 (t311 + (ji6)))] (by rfl) rfl rfl (by (try simp only [List.map_toArray, List.map_cons, List.map_nil]); first | done | (simp only [hji6]; rfl) | rfl | (simp only [List.length_drop, List.length_take]; rfl)) ?_
  with_reducible refine (impl_power.calls k a0 (wrap64 (t311 + (ji6))) t316 _ A7.out).mono ?_
  rintro e w' ⟨rfl, ⟨nd, rfl⟩⟩
  refine ⟨_, rfl, ?_⟩
  refine hK.out _ _ ⟨(blk_cell BK315.out 0).trans rfl, (blk_cell BK315.out 1).trans rfl, (blk_cell BK315.out 2).trans rfl⟩ (fun hHeld => ?_)
  clear hK K
  refine norm_ (a' := ?_) ?_ ?_
  rotate_left
  ·show Act.put _ (some 30) _ = _
   simp only [Act.put, lstS, lstZ, lstC, i64_w, i32_w]
   rfl
  refine one_ (i := 13) (N := some 38) #[true, true, true, true, true, true, true, true, true, true, true, true, true, true, false, false, true, true, false, false, false, false, false, false, false, false] rfl rfl (one_of HT_.out (by kernel_rfl)) (by decide) (fun K hK => ?_)
  refine goes_ Try.func80 (by kernel_rfl) rfl #[.int .i64 a0, .int .i64 (wrap64 ((ji6) - t313))] (by rfl) rfl rfl (by (try simp only [List.map_toArray, List.map_cons, List.map_nil]); first | done | (simp only [hji6]; rfl) | rfl | (simp only [List.length_drop, List.length_take]; rfl)) ?_
  with_reducible refine (impl_power.calls k a0 (wrap64 ((ji6) - t313)) t317 _ A8.out).mono ?_
  rintro e w' ⟨rfl, ⟨nd, rfl⟩⟩
  refine ⟨_, rfl, ?_⟩
  refine hK.out _ _ ⟨(blk_cell BK315.out 0).trans rfl, (blk_cell BK315.out 1).trans rfl, (blk_cell BK315.out 2).trans rfl⟩ (fun hHeld => ?_)
  clear hK K
  refine norm_ (a' := ?_) ?_ ?_
  rotate_left
  ·show Act.put _ (some 38) _ = _
   simp only [Act.put, lstS, lstZ, lstC, i64_w, i32_w]
   rfl
  refine pu_ HT_ 14 (some 39) #[true, true, true, true, true, true, true, true, true, true, true, true, true, true, true, false, true, true, false, false, false, false, false, false, false, false] ?_
  refine pu_ HT_ 15 (some 40) #[true, true, true, true, true, true, true, true, true, true, true, true, true, true, true, true, true, true, false, false, false, false, false, false, false, false] ?_
  refine one_ (i := 18) (N := some 43) #[true, true, true, true, true, true, true, true, true, true, true, true, true, true, true, true, true, true, true, false, false, false, false, false, false, false] rfl rfl (one_of HT_.out (by kernel_rfl)) (by decide) (fun K hK => ?_)
  refine goes_ Try.func80 (by kernel_rfl) rfl #[.int .i64 a0, .int .i64 ji6] (by rfl) rfl rfl (by (try simp only [List.map_toArray, List.map_cons, List.map_nil]); first | done | (simp only [hji6]; rfl) | rfl | (simp only [List.length_drop, List.length_take]; rfl)) ?_
  with_reducible refine (impl_power.calls k a0 ji6 t318 _ A9.out).mono ?_
  rintro e w' ⟨rfl, ⟨nd, rfl⟩⟩
  refine ⟨_, rfl, ?_⟩
  refine hK.out _ _ ⟨(blk_cell BK315.out 0).trans rfl, (blk_cell BK315.out 1).trans rfl, (blk_cell BK315.out 2).trans rfl⟩ (fun hHeld => ?_)
  clear hK K
  refine norm_ (a' := ?_) ?_ ?_
  rotate_left
  ·show Act.put _ (some 43) _ = _
   simp only [Act.put, lstS, lstZ, lstC, i64_w, i32_w]
   rfl
  refine pu_ HT_ 19 (some 44) #[true, true, true, true, true, true, true, true, true, true, true, true, true, true, true, true, true, true, true, true, false, false, false, false, false, false] ?_
  refine pu_ HT_ 20 (some 45) #[true, true, true, true, true, true, true, true, true, true, true, true, true, true, true, true, true, true, true, true, true, false, false, false, false, false] ?_
  refine one_ (i := 21) (N := some 46) #[true, true, true, true, true, true, true, true, true, true, true, true, true, true, true, true, true, true, true, true, true, true, false, false, false, false] rfl rfl (one_of HT_.out (by kernel_rfl)) (by decide) (fun K hK => ?_)
  refine goes_ Try.func85 (by kernel_rfl) rfl #[.agg #[.int .i64 t316, .int .i64 (wrap64 (t312 * t317)), .int .i64 0, .int .i64 t318]] (by rfl) rfl rfl (by (try simp only [List.map_toArray, List.map_cons, List.map_nil]); first | done | rfl | (simp only [List.length_drop, List.length_take]; rfl)) ?_
  with_reducible refine (impl_reduced.calls k t316 (wrap64 (t312 * t317)) 0 t318 t319 t320 t321 t322 t323 _ A10.out).mono ?_
  rintro e w22 ⟨rfl, hb⟩
  refine ⟨_, rfl, ?_⟩
  replace BK309 := bb_ BK309 hb
  replace BK310 := bb_ BK310 hb
  replace BK315 := bb_ BK315 hb
  replace HB := bt_ HB hb
  (try clear hb)
  (try clear hb2)
  (try clear hk)
  (try clear hi)
  refine hK.out _ _ ⟨(blk_cell BK315.out 0).trans rfl, (blk_cell BK315.out 1).trans rfl, (blk_cell BK315.out 2).trans rfl⟩ (fun hHeld => ?_)
  clear hK K
  refine norm_ (a' := ?_) ?_ ?_
  rotate_left
  ·show Act.put _ (some 46) _ = _
   simp only [Act.put, lstS, lstZ, lstC, i64_w, i32_w]
   rfl
  refine pu_ HT_ 22 (some 47) #[true, true, true, true, true, true, true, true, true, true, true, true, true, true, true, true, true, true, true, true, true, true, true, false, false, false] ?_
  refine pu_ HT_ 23 (some 48) #[true, true, true, true, true, true, true, true, true, true, true, true, true, true, true, true, true, true, true, true, true, true, true, true, false, false] ?_
  refine one_ (i := 24) (N := none) #[true, true, true, true, true, true, true, true, true, true, true, true, true, true, true, true, true, true, true, true, true, true, true, true, true, false] rfl rfl (one_of HT_.out (by kernel_rfl)) (by decide) (fun K hK => ?_)
  have hs23 : w22.cell? ⟨gb310, 0, none⟩ = some (.int .i64 0) := (blk_cell BK310.out 0).trans rfl
  have hfs23 := blk_frozen BK310.out 0
  have hns23_0 := NB309_310.out
  have hns23_2 := NB315_310.out
  have hms23_0 := NB310_309.out
  have hms23_2 := NB310_315.out
  have hs24 : w22.cell? ⟨gb310, 1, none⟩ = some (.int .i64 0) := (blk_cell BK310.out 1).trans rfl
  have hfs24 := blk_frozen BK310.out 1
  have hns24_0 := NB309_310.out
  have hns24_2 := NB315_310.out
  have hms24_0 := NB310_309.out
  have hms24_2 := NB310_315.out
  have hs25 : w22.cell? ⟨gb310, 2, none⟩ = some (.int .i64 0) := (blk_cell BK310.out 2).trans rfl
  have hfs25 := blk_frozen BK310.out 2
  have hns25_0 := NB309_310.out
  have hns25_2 := NB315_310.out
  have hms25_0 := NB310_309.out
  have hms25_2 := NB310_315.out
  have hs26 : w22.cell? ⟨gb310, 3, none⟩ = some (.int .i64 0) := (blk_cell BK310.out 3).trans rfl
  have hfs26 := blk_frozen BK310.out 3
  have hns26_0 := NB309_310.out
  have hns26_2 := NB315_310.out
  have hms26_0 := NB310_309.out
  have hms26_2 := NB310_315.out
  refine skip_ (w1 := ?_) (by rfl) rfl ?_ ?_
  rotate_left
  ·go_simp
   rfl
  refine hK.out _ _ ⟨((cell_far (p := ⟨gb310, _, none⟩) NB315_310.out _).trans (((cell_far (p := ⟨gb310, _, none⟩) NB315_310.out _).trans (((cell_far (p := ⟨gb310, _, none⟩) NB315_310.out _).trans (((cell_far (p := ⟨gb310, _, none⟩) NB315_310.out _).trans (hHeld.1)))))))), ((cell_far (p := ⟨gb310, _, none⟩) NB315_310.out _).trans (((cell_far (p := ⟨gb310, _, none⟩) NB315_310.out _).trans (((cell_far (p := ⟨gb310, _, none⟩) NB315_310.out _).trans (((cell_far (p := ⟨gb310, _, none⟩) NB315_310.out _).trans (hHeld.2.1)))))))), ((cell_far (p := ⟨gb310, _, none⟩) NB315_310.out _).trans (((cell_far (p := ⟨gb310, _, none⟩) NB315_310.out _).trans (((cell_far (p := ⟨gb310, _, none⟩) NB315_310.out _).trans (((cell_far (p := ⟨gb310, _, none⟩) NB315_310.out _).trans (hHeld.2.2))))))))⟩ (fun hHeld => ?_)
  clear hK K
  refine pu_ HT_ 25 (some 5) #[true, true, true, true, true, true, true, true, true, true, true, true, true, true, true, true, true, true, true, true, true, true, true, true, true, true] ?_
  refine done_ (done_of HT_.out (by kernel_rfl)) ?_
  try go_wp2
  refine bodyPost_ret (results_ct rfl _ _ gb310 33 #[.int .i64 t319, .int .i64 t320, .int .i64 t321, .int .i64 t322] (0, 0) _ rfl (by (with_reducible repeat first | apply blk_drewN | apply blk_drew | apply blk_alloc); refine blk_put (cs := #[.int .i64 t319, .int .i64 t320, .int .i64 t321, .int .i64 0]) ?_ 3 _ rfl; (with_reducible repeat first | apply blk_drewN | apply blk_drew | apply blk_alloc); refine blk_put (cs := #[.int .i64 t319, .int .i64 t320, .int .i64 0, .int .i64 0]) ?_ 2 _ rfl; (with_reducible repeat first | apply blk_drewN | apply blk_drew | apply blk_alloc); refine blk_put (cs := #[.int .i64 t319, .int .i64 0, .int .i64 0, .int .i64 0]) ?_ 1 _ rfl; (with_reducible repeat first | apply blk_drewN | apply blk_drew | apply blk_alloc); refine blk_put (cs := #[.int .i64 0, .int .i64 0, .int .i64 0, .int .i64 0]) ?_ 0 _ rfl; (with_reducible repeat first | apply blk_drewN | apply blk_drew | apply blk_alloc); exact BK310.out) Try.underlying33 rfl (by kernel_rfl)) rfl ?_
  exact ⟨by first | rfl | (simp [errW_none, errW_some] <;> rfl) | (simp only [← hji5, ← hji6]; first | rfl | (simp [errW_none, errW_some] <;> rfl)) | (simp [*, errW_none, errW_some] <;> rfl), by repeat (first | (with_reducible first | exact HB.out | apply below_alloc | apply pw_below_drewN | apply below_drew1 | refine below_set ?_ GE309.out | refine below_set ?_ GE310.out | refine below_set ?_ GE315.out) | exact HB.out)⟩
 ·replace c4 := Bool.eq_false_iff.mpr c4
  subst c4
  have H1 : (some (0, 0, 0, 0, false)) = some (r1, r2, r3, r4, r5) := by rw [if_neg (show ¬ (false = true) by decide)] at H; exact H
  clear H
  have H := H1
  clear H1
  simp only [Option.some.injEq, Prod.mk.injEq] at H
  obtain ⟨rfl, rfl, rfl, rfl, rfl⟩ := H
  go_enter Try.func46, Try.ntmps46
  go_wp2_with (first | ((with_reducible refine gate_dst (N := 3) rfl ?_); refine bx_ 3 #[.int .i64 a1_0, .int .i64 a1_1, .int .i64 a1_2, .int .i64 a1_3] 33 ?_; intro gb309 hg w27 hbox hb; have BK309 := Aside0.mk (hbox); have GW309 := bs_ HB hg; have GE309 := bs_ HB hg; replace HB := bt_ HB hb; clear hb hbox hg) | ((with_reducible refine gate_dst (N := 4) rfl ?_); refine bx_ 4 #[.int .i64 0, .int .i64 0, .int .i64 0, .int .i64 0] 33 ?_; intro gb310 hg w28 hbox hb; have BK310 := Aside0.mk (hbox); have GW310 := bs_ HB hg; have GE310 := bs_ HB hg; have NB309_310 := bm_ BK309 hg; have NB310_309 := bn_ BK309 hg; replace BK309 := bb_ BK309 hb; replace HB := bt_ HB hb; clear hb hbox hg; have hnb29 := NB309_310.out; have hnc29 := NB310_309.out; have hcz30_0 : w28.cell? ⟨gb309, 0, none⟩ = some (.int .i64 a1_0) := (blk_cell BK309.out 0).trans rfl; have hcz30_1 : w28.cell? ⟨gb309, 1, none⟩ = some (.int .i64 a1_1) := (blk_cell BK309.out 1).trans rfl; have hcz30_2 : w28.cell? ⟨gb309, 2, none⟩ = some (.int .i64 a1_2) := (blk_cell BK309.out 2).trans rfl; have hcz30_3 : w28.cell? ⟨gb309, 3, none⟩ = some (.int .i64 a1_3) := (blk_cell BK309.out 3).trans rfl; have hfz30_0 := blk_frozen BK309.out 0; have hfz30_1 := blk_frozen BK309.out 1; have hfz30_2 := blk_frozen BK309.out 2; have hfz30_3 := blk_frozen BK309.out 3) | ((with_reducible refine gate_callee (f := 54) rfl ?_); refine goesL_ (some 13) rfl rfl Try.func54 (by kernel_rfl) rfl #[.int .i64 a0, .agg #[.int .i64 a1_0, .int .i64 a1_1, .int .i64 a1_2, .int .i64 a1_3], .agg #[.int .i64 0, .int .i64 0, .int .i64 0]] rfl (by (try simp only [List.map_toArray, List.map_cons, List.map_nil]); first | done | rfl | (simp only [List.length_drop, List.length_take]; rfl)) ?_; (with_reducible refine (impl_moveBall.calls k a0 a1_0 a1_1 a1_2 a1_3 0 0 0 t311 t312 t313 false _ A3.out).mono ?_); rintro e w31 ⟨rfl, hb⟩; refine ⟨_, rfl, ?_⟩; replace BK309 := bb_ BK309 hb; replace BK310 := bb_ BK310 hb; replace HB := bt_ HB hb; (try clear hb); (try clear hb2); (try clear hk); (try clear hi)) | ((with_reducible refine gate_dst (N := 6) rfl ?_); refine bx_ 6 #[.int .i64 0, .int .i64 0, .int .i64 0] 28 ?_; intro gb315 hg w32 hbox hb; have BK315 := Aside0.mk (hbox); have GW315 := bs_ HB hg; have GE315 := bs_ HB hg; have NB309_315 := bm_ BK309 hg; have NB315_309 := bn_ BK309 hg; have NB310_315 := bm_ BK310 hg; have NB315_310 := bn_ BK310 hg; replace BK309 := bb_ BK309 hb; replace BK310 := bb_ BK310 hb; replace HB := bt_ HB hb; clear hb hbox hg; have hnb33 := NB315_309.out; have hnc33 := NB309_315.out; have hnb34 := NB315_310.out; have hnc34 := NB310_315.out; have hcz35_0 : w32.cell? ⟨gb315, 0, none⟩ = some (.int .i64 0) := (blk_cell BK315.out 0).trans rfl; have hcz35_1 : w32.cell? ⟨gb315, 1, none⟩ = some (.int .i64 0) := (blk_cell BK315.out 1).trans rfl; have hcz35_2 : w32.cell? ⟨gb315, 2, none⟩ = some (.int .i64 0) := (blk_cell BK315.out 2).trans rfl; have hfz35_0 := blk_frozen BK315.out 0; have hfz35_1 := blk_frozen BK315.out 1; have hfz35_2 := blk_frozen BK315.out 2; have hcz36_0 : w32.cell? ⟨gb310, 0, none⟩ = some (.int .i64 0) := (blk_cell BK310.out 0).trans rfl; have hcz36_1 : w32.cell? ⟨gb310, 1, none⟩ = some (.int .i64 0) := (blk_cell BK310.out 1).trans rfl; have hcz36_2 : w32.cell? ⟨gb310, 2, none⟩ = some (.int .i64 0) := (blk_cell BK310.out 2).trans rfl; have hcz36_3 : w32.cell? ⟨gb310, 3, none⟩ = some (.int .i64 0) := (blk_cell BK310.out 3).trans rfl; have hfz36_0 := blk_frozen BK310.out 0; have hfz36_1 := blk_frozen BK310.out 1; have hfz36_2 := blk_frozen BK310.out 2; have hfz36_3 := blk_frozen BK310.out 3))
  refine bodyPost_ret (results_ct rfl _ _ gb310 33 #[.int .i64 0, .int .i64 0, .int .i64 0, .int .i64 0] (0, 0) _ rfl (by (with_reducible repeat first | apply blk_drewN | apply blk_drew | apply blk_alloc); refine blk_put (cs := #[.int .i64 0, .int .i64 0, .int .i64 0, .int .i64 0]) ?_ 3 _ rfl; (with_reducible repeat first | apply blk_drewN | apply blk_drew | apply blk_alloc); refine blk_put (cs := #[.int .i64 0, .int .i64 0, .int .i64 0, .int .i64 0]) ?_ 2 _ rfl; (with_reducible repeat first | apply blk_drewN | apply blk_drew | apply blk_alloc); refine blk_put (cs := #[.int .i64 0, .int .i64 0, .int .i64 0, .int .i64 0]) ?_ 1 _ rfl; (with_reducible repeat first | apply blk_drewN | apply blk_drew | apply blk_alloc); refine blk_put (cs := #[.int .i64 0, .int .i64 0, .int .i64 0, .int .i64 0]) ?_ 0 _ rfl; (with_reducible repeat first | apply blk_drewN | apply blk_drew | apply blk_alloc); refine blk_far ?_ NB310_315.out _; (with_reducible repeat first | apply blk_drewN | apply blk_drew | apply blk_alloc); refine blk_far ?_ NB310_315.out _; (with_reducible repeat first | apply blk_drewN | apply blk_drew | apply blk_alloc); refine blk_far ?_ NB310_315.out _; (with_reducible repeat first | apply blk_drewN | apply blk_drew | apply blk_alloc); exact BK310.out) Try.underlying33 rfl (by kernel_rfl)) rfl ?_
  exact ⟨by first | rfl | (simp [errW_none, errW_some] <;> rfl) | (simp [*, errW_none, errW_some] <;> rfl), by repeat (first | (with_reducible first | exact HB.out | apply below_alloc | apply pw_below_drewN | apply below_drew1 | refine below_set ?_ GE309.out | refine below_set ?_ GE310.out | refine below_set ?_ GE315.out) | exact HB.out)⟩
end Go.Proofs.Ytojpcbbmbnmchaa.QC
