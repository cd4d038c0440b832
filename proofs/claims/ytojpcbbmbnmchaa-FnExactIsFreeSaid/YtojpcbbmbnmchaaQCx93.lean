-- Written by a program of this session out of Lean's own print of the loaded program; Lean checks it.
import Derived.Test.YtojpcbbmbnmchaaQCx4
import Derived.Test.YtojpcbbmbnmchaaQCx38
namespace Go.Proofs.Ytojpcbbmbnmchaa.QC
open Go.RowKit Go.Proofs.YtojpcbbmbnmchaaW.PrintWords Go.Proofs.YtojpcbbmbnmchaaW.PrintLast Go.Proofs.YtojpcbbmbnmchaaW.PrintMore
attribute [local go_sem] isSome_setCell max2_int min2_int max_two min_two max_three min_three max_four min_four   -- for this text's walks alone
set_option linter.unusedVariables false
set_option linter.unusedSimpArgs false

/-! ### impl_holds: function 117 -/
def impl_holds.f (k : Nat) (a0 : Int) (a1_0 : Int) (a1_1 : Int) (a1_2 : Int) (a2_0 : Int) (a2_1 : Int) (a2_2 : Int) : Option (Bool) := if a1_0 ≤ a2_0 then ((impl_mark.f k a0 a2_0 a2_1 a2_2).bind fun t697 => ((impl_mark.f k a0 a1_0 a1_1 a1_2).bind fun t698 => ((impl_power.f k a0 (wrap64 (a1_0 + 6))).bind fun t699 => (if t699 = 0 then (none) else (some ((Int.tmod (wrap64 (t697 - t698)) t699) == 0)))))) else (some false)
def impl_holds.T1 : Bool × List (List Nat × List Nat) := (true, [([], []), ([0], [0]), ([], []), ([2], [2]), ([1, 3], [1, 3]), ([4], [4]), ([5], [5]), ([5], [5]), ([6, 7, 5, 5], [5, 6, 7]), ([5], [5]), ([5], [5]), ([9, 10, 8, 5], [5, 9, 10]), ([8, 11, 5], [5, 8, 11]), ([5], [5]), ([5], [5]), ([14, 5], [5, 14]), ([15, 5], [5, 15]), ([13, 16, 11, 5], [5, 13, 16]), ([12, 17, 5], [5, 12, 17]), ([18, 5], [5, 18]), ([5, 19], [5, 19]), ([20, 17, 0, 1, 2, 3, 4, 5, 6, 7, 8, 9, 10, 11, 12, 13, 14, 15, 16, 17, 18, 19, 20], [20])])
def impl_holds.B1 : List Nat := [0, 1, 0, 4, 15, 31, 63, 63, 255, 63, 63, 2047, 4095, 63, 63, 16447, 49215, 126975, 262143, 524287, 1048575, 2097151]
theorem impl_holds.tab1 : rtab .any (opsOf Try.f117 1) = impl_holds.T1 := by kernel_rfl
theorem impl_holds.bits1 : waitsOk impl_holds.T1.2 impl_holds.B1 = true := by kernel_rfl
set_option maxHeartbeats 8000000 in
set_option maxRecDepth 100000 in
theorem impl_holds.calls (k : Nat) (a0 : Int) (a1_0 : Int) (a1_1 : Int) (a1_2 : Int) (a2_0 : Int) (a2_1 : Int) (a2_2 : Int) (r : Bool) (w : World) (h : impl_holds.f k a0 a1_0 a1_1 a1_2 a2_0 a2_1 a2_2 = some r) :
  Calls Try.prog 117 #[.int .i64 a0, .agg #[.int .i64 a1_0, .int .i64 a1_1, .int .i64 a1_2], .agg #[.int .i64 a2_0, .int .i64 a2_1, .int .i64 a2_2]] w fun e w' => e = .returned (.bool r) ∧ Below w.heap.size w w' := by
 have hu28 := Try.underlying28
 have HB := Aside0.mk (Below.refl w.heap.size w)
 have H : (if a1_0 ≤ a2_0 then ((impl_mark.f k a0 a2_0 a2_1 a2_2).bind fun t697 => ((impl_mark.f k a0 a1_0 a1_1 a1_2).bind fun t698 => ((impl_power.f k a0 (wrap64 (a1_0 + 6))).bind fun t699 => (if t699 = 0 then (none) else (some ((Int.tmod (wrap64 (t697 - t698)) t699) == 0)))))) else (some false)) = some r := h
 clear h
 by_cases c4 : a1_0 ≤ a2_0
 ·rw [if_pos c4] at H
  have c4b0 : decide (a1_0 ≤ a2_0) = true := decide_eq_true c4
  clear c4
  replace H := Option.bind_eq_some_iff.mp H
  obtain ⟨t697, A50, H⟩ := H
  have A5 := Aside0.mk A50
  clear A50
  replace H := Option.bind_eq_some_iff.mp H
  obtain ⟨t698, A60, H⟩ := H
  have A6 := Aside0.mk A60
  clear A60
  replace H := Option.bind_eq_some_iff.mp H
  obtain ⟨t699, A70, H⟩ := H
  have A7 := Aside0.mk A70
  clear A70
  by_cases c8 : t699 = 0
  ·rw [if_pos c8] at H
   exact absurd H (by simp)
  ·rw [if_neg c8] at H
   have c8b0 : (t699 == 0) = false := beq_eq_false_iff_ne.mpr c8
   have c8b1 : (t699 != 0) = true := bne_iff_ne.mpr c8
   obtain rfl := Option.some.inj H
   go_enter Try.func117, Try.ntmps117
   try go_wp2_with (first | ((with_reducible refine gate_dst (N := 4) rfl ?_); refine bx_ 4 #[.int .i64 a1_0, .int .i64 a1_1, .int .i64 a1_2] 28 ?_; intro gb695 hg w9 hbox hb; have BK695 := Aside0.mk (hbox); have GW695 := bs_ HB hg; have GE695 := bs_ HB hg; replace HB := bt_ HB hb; clear hb hbox hg) | ((with_reducible refine gate_dst (N := 5) rfl ?_); refine bx_ 5 #[.int .i64 a2_0, .int .i64 a2_1, .int .i64 a2_2] 28 ?_; intro gb696 hg w10 hbox hb; have BK696 := Aside0.mk (hbox); have GW696 := bs_ HB hg; have GE696 := bs_ HB hg; have NB695_696 := bm_ BK695 hg; have NB696_695 := bn_ BK695 hg; replace BK695 := bb_ BK695 hb; replace HB := bt_ HB hb; clear hb hbox hg))
   replace BK695 := Aside0.mk (blk_drew BK695.out)
   replace BK696 := Aside0.mk (blk_drew BK696.out)
   replace HB := Aside0.mk (below_drew1 HB.out)
   refine start_ (n := 22) (S := fun w' => w'.cell? ⟨gb695, 0, none⟩ = some (.int .i64 a1_0) ∧ w'.cell? ⟨gb695, 1, none⟩ = some (.int .i64 a1_1) ∧ w'.cell? ⟨gb695, 2, none⟩ = some (.int .i64 a1_2) ∧ w'.cell? ⟨gb696, 0, none⟩ = some (.int .i64 a2_0) ∧ w'.cell? ⟨gb696, 1, none⟩ = some (.int .i64 a2_1) ∧ w'.cell? ⟨gb696, 2, none⟩ = some (.int .i64 a2_2)) (ds := []) #[false, false, false, false, false, false, false, false, false, false, false, false, false, false, false, false, false, false, false, false, false, false] (by kernel_rfl) rfl rfl ⟨(blk_cell BK695.out 0).trans rfl, (blk_cell BK695.out 1).trans rfl, (blk_cell BK695.out 2).trans rfl, (blk_cell BK696.out 0).trans rfl, (blk_cell BK696.out 1).trans rfl, (blk_cell BK696.out 2).trans rfl⟩ (fun hHeld => ?_); refine with_tabW impl_holds.tab1 impl_holds.bits1 (fun HT_ HW_ => ?_)
   generalize w10.drew = w11 at BK695 BK696 HB hHeld ⊢
   refine pu_ HT_ 0 (some 7) #[true, false, false, false, false, false, false, false, false, false, false, false, false, false, false, false, false, false, false, false, false, false] ?_
   refine pu_ HT_ 2 (some 9) #[true, false, true, false, false, false, false, false, false, false, false, false, false, false, false, false, false, false, false, false, false, false] ?_
   refine ta_ HT_ HW_ 1 (some 8) #[true, true, true, false, false, false, false, false, false, false, false, false, false, false, false, false, false, false, false, false, false, false] hHeld ?_ (hy := by rintro w' ⟨s0, s1, s2, s3, s4, s5⟩; go_simp; with_reducible rfl)
   refine ta_ HT_ HW_ 3 (some 10) #[true, true, true, true, false, false, false, false, false, false, false, false, false, false, false, false, false, false, false, false, false, false] hHeld ?_ (hy := by rintro w' ⟨s0, s1, s2, s3, s4, s5⟩; go_simp; with_reducible rfl)
   refine pu_ HT_ 4 (some 11) #[true, true, true, true, true, false, false, false, false, false, false, false, false, false, false, false, false, false, false, false, false, false] ?_
   refine pu_ HT_ 5 (some 12) #[true, true, true, true, true, true, false, false, false, false, false, false, false, false, false, false, false, false, false, false, false, false] ?_
   refine pu_ HT_ 6 (some 13) #[true, true, true, true, true, true, true, false, false, false, false, false, false, false, false, false, false, false, false, false, false, false] ?_
   refine pu_ HT_ 9 (some 16) #[true, true, true, true, true, true, true, false, false, true, false, false, false, false, false, false, false, false, false, false, false, false] ?_
   refine pu_ HT_ 13 (some 20) #[true, true, true, true, true, true, true, false, false, true, false, false, false, true, false, false, false, false, false, false, false, false] ?_
   refine pu_ HT_ 14 (some 21) #[true, true, true, true, true, true, true, false, false, true, false, false, false, true, true, false, false, false, false, false, false, false] ?_
   refine ta_ HT_ HW_ 7 (some 14) #[true, true, true, true, true, true, true, true, false, true, false, false, false, true, true, false, false, false, false, false, false, false] hHeld ?_ (hy := by rintro w' ⟨s0, s1, s2, s3, s4, s5⟩; go_simp; with_reducible rfl)
   refine ta_ HT_ HW_ 10 (some 17) #[true, true, true, true, true, true, true, true, false, true, true, false, false, true, true, false, false, false, false, false, false, false] hHeld ?_ (hy := by rintro w' ⟨s0, s1, s2, s3, s4, s5⟩; go_simp; with_reducible rfl)
   refine ta_ HT_ HW_ 15 (some 22) #[true, true, true, true, true, true, true, true, false, true, true, false, false, true, true, true, false, false, false, false, false, false] hHeld ?_ (hy := by rintro w' ⟨s0, s1, s2, s3, s4, s5⟩; go_simp; with_reducible rfl)
   refine pu_ HT_ 16 (some 23) #[true, true, true, true, true, true, true, true, false, true, true, false, false, true, true, true, true, false, false, false, false, false] ?_
   refine one_ (i := 8) (N := some 15) #[true, true, true, true, true, true, true, true, true, true, true, false, false, true, true, true, true, false, false, false, false, false] rfl rfl (one_of HT_.out (by kernel_rfl)) (by decide) (fun K hK => ?_)
   refine goes_ Try.func79 (by kernel_rfl) rfl #[.int .i64 a0, .agg #[.int .i64 a2_0, .int .i64 a2_1, .int .i64 a2_2]] (by rfl) rfl rfl (by (try simp only [List.map_toArray, List.map_cons, List.map_nil]); first | done | rfl | (simp only [List.length_drop, List.length_take]; rfl)) ?_
   with_reducible refine (impl_mark.calls k a0 a2_0 a2_1 a2_2 t697 _ A5.out).mono ?_
   rintro e w12 ⟨rfl, hb⟩
   refine ⟨_, rfl, ?_⟩
   replace BK695 := bb_ BK695 hb
   replace BK696 := bb_ BK696 hb
   replace HB := bt_ HB hb
   (try clear hb)
   (try clear hb2)
   (try clear hk)
   (try clear hi)
   refine hK.out _ _ ⟨(blk_cell BK695.out 0).trans rfl, (blk_cell BK695.out 1).trans rfl, (blk_cell BK695.out 2).trans rfl, (blk_cell BK696.out 0).trans rfl, (blk_cell BK696.out 1).trans rfl, (blk_cell BK696.out 2).trans rfl⟩ (fun hHeld => ?_)
   clear hK K
   refine norm_ (a' := ?_) ?_ ?_
   rotate_left
   ·show Act.put _ (some 15) _ = _
    simp only [Act.put, lstS, lstZ, lstC, i64_w, i32_w]
    rfl
   refine one_ (i := 11) (N := some 18) #[true, true, true, true, true, true, true, true, true, true, true, true, false, true, true, true, true, false, false, false, false, false] rfl rfl (one_of HT_.out (by kernel_rfl)) (by decide) (fun K hK => ?_)
   refine goes_ Try.func79 (by kernel_rfl) rfl #[.int .i64 a0, .agg #[.int .i64 a1_0, .int .i64 a1_1, .int .i64 a1_2]] (by rfl) rfl rfl (by (try simp only [List.map_toArray, List.map_cons, List.map_nil]); first | done | rfl | (simp only [List.length_drop, List.length_take]; rfl)) ?_
   with_reducible refine (impl_mark.calls k a0 a1_0 a1_1 a1_2 t698 _ A6.out).mono ?_
   rintro e w13 ⟨rfl, hb⟩
   refine ⟨_, rfl, ?_⟩
   replace BK695 := bb_ BK695 hb
   replace BK696 := bb_ BK696 hb
   replace HB := bt_ HB hb
   (try clear hb)
   (try clear hb2)
   (try clear hk)
   (try clear hi)
   refine hK.out _ _ ⟨(blk_cell BK695.out 0).trans rfl, (blk_cell BK695.out 1).trans rfl, (blk_cell BK695.out 2).trans rfl, (blk_cell BK696.out 0).trans rfl, (blk_cell BK696.out 1).trans rfl, (blk_cell BK696.out 2).trans rfl⟩ (fun hHeld => ?_)
   clear hK K
   refine norm_ (a' := ?_) ?_ ?_
   rotate_left
   ·show Act.put _ (some 18) _ = _
    simp only [Act.put, lstS, lstZ, lstC, i64_w, i32_w]
    rfl
   refine pu_ HT_ 12 (some 19) #[true, true, true, true, true, true, true, true, true, true, true, true, true, true, true, true, true, false, false, false, false, false] ?_
   refine one_ (i := 17) (N := some 24) #[true, true, true, true, true, true, true, true, true, true, true, true, true, true, true, true, true, true, false, false, false, false] rfl rfl (one_of HT_.out (by kernel_rfl)) (by decide) (fun K hK => ?_)
   refine goes_ Try.func80 (by kernel_rfl) rfl #[.int .i64 a0, .int .i64 (wrap64 (a1_0 + 6))] (by rfl) rfl rfl (by (try simp only [List.map_toArray, List.map_cons, List.map_nil]); first | done | rfl | (simp only [List.length_drop, List.length_take]; rfl)) ?_
   with_reducible refine (impl_power.calls k a0 (wrap64 (a1_0 + 6)) t699 _ A7.out).mono ?_
   rintro e w' ⟨rfl, ⟨nd, rfl⟩⟩
   refine ⟨_, rfl, ?_⟩
   refine hK.out _ _ ⟨(blk_cell BK695.out 0).trans rfl, (blk_cell BK695.out 1).trans rfl, (blk_cell BK695.out 2).trans rfl, (blk_cell BK696.out 0).trans rfl, (blk_cell BK696.out 1).trans rfl, (blk_cell BK696.out 2).trans rfl⟩ (fun hHeld => ?_)
   clear hK K
   refine norm_ (a' := ?_) ?_ ?_
   rotate_left
   ·show Act.put _ (some 24) _ = _
    simp only [Act.put, lstS, lstZ, lstC, i64_w, i32_w]
    rfl
   refine pu_ HT_ 18 (some 25) #[true, true, true, true, true, true, true, true, true, true, true, true, true, true, true, true, true, true, true, false, false, false] ?_
   refine pu_ HT_ 19 (some 26) #[true, true, true, true, true, true, true, true, true, true, true, true, true, true, true, true, true, true, true, true, false, false] ?_
   refine pu_ HT_ 20 (some 27) #[true, true, true, true, true, true, true, true, true, true, true, true, true, true, true, true, true, true, true, true, true, false] ?_
   refine pu_ HT_ 21 (some 6) #[true, true, true, true, true, true, true, true, true, true, true, true, true, true, true, true, true, true, true, true, true, true] ?_
   refine done_ (done_of HT_.out (by kernel_rfl)) ?_
   try go_wp2
   go_ret
   exact ⟨by first | rfl | (simp [errW_none, errW_some] <;> rfl) | (simp [*, errW_none, errW_some] <;> rfl), by repeat (first | (with_reducible first | exact HB.out | apply below_alloc | apply pw_below_drewN | apply below_drew1 | refine below_set ?_ GE695.out | refine below_set ?_ GE696.out) | exact HB.out)⟩
 ·rw [if_neg c4] at H
  have c4b0 : decide (a1_0 ≤ a2_0) = false := decide_eq_false c4
  clear c4
  obtain rfl := Option.some.inj H
  go_enter Try.func117, Try.ntmps117
  try go_wp2_with (first | ((with_reducible refine gate_dst (N := 4) rfl ?_); refine bx_ 4 #[.int .i64 a1_0, .int .i64 a1_1, .int .i64 a1_2] 28 ?_; intro gb695 hg w14 hbox hb; have BK695 := Aside0.mk (hbox); have GW695 := bs_ HB hg; have GE695 := bs_ HB hg; replace HB := bt_ HB hb; clear hb hbox hg) | ((with_reducible refine gate_dst (N := 5) rfl ?_); refine bx_ 5 #[.int .i64 a2_0, .int .i64 a2_1, .int .i64 a2_2] 28 ?_; intro gb696 hg w15 hbox hb; have BK696 := Aside0.mk (hbox); have GW696 := bs_ HB hg; have GE696 := bs_ HB hg; have NB695_696 := bm_ BK695 hg; have NB696_695 := bn_ BK695 hg; replace BK695 := bb_ BK695 hb; replace HB := bt_ HB hb; clear hb hbox hg))
  replace BK695 := Aside0.mk (blk_drew BK695.out)
  replace BK696 := Aside0.mk (blk_drew BK696.out)
  replace HB := Aside0.mk (below_drew1 HB.out)
  refine start_ (n := 22) (S := fun w' => w'.cell? ⟨gb695, 0, none⟩ = some (.int .i64 a1_0) ∧ w'.cell? ⟨gb695, 1, none⟩ = some (.int .i64 a1_1) ∧ w'.cell? ⟨gb695, 2, none⟩ = some (.int .i64 a1_2) ∧ w'.cell? ⟨gb696, 0, none⟩ = some (.int .i64 a2_0) ∧ w'.cell? ⟨gb696, 1, none⟩ = some (.int .i64 a2_1) ∧ w'.cell? ⟨gb696, 2, none⟩ = some (.int .i64 a2_2)) (ds := []) #[false, false, false, false, false, false, false, false, false, false, false, false, false, false, false, false, false, false, false, false, false, false] (by kernel_rfl) rfl rfl ⟨(blk_cell BK695.out 0).trans rfl, (blk_cell BK695.out 1).trans rfl, (blk_cell BK695.out 2).trans rfl, (blk_cell BK696.out 0).trans rfl, (blk_cell BK696.out 1).trans rfl, (blk_cell BK696.out 2).trans rfl⟩ (fun hHeld => ?_); refine with_tabW impl_holds.tab1 impl_holds.bits1 (fun HT_ HW_ => ?_)
  generalize w15.drew = w16 at BK695 BK696 HB hHeld ⊢
  refine pu_ HT_ 0 (some 7) #[true, false, false, false, false, false, false, false, false, false, false, false, false, false, false, false, false, false, false, false, false, false] ?_
  refine pu_ HT_ 2 (some 9) #[true, false, true, false, false, false, false, false, false, false, false, false, false, false, false, false, false, false, false, false, false, false] ?_
  refine ta_ HT_ HW_ 1 (some 8) #[true, true, true, false, false, false, false, false, false, false, false, false, false, false, false, false, false, false, false, false, false, false] hHeld ?_ (hy := by rintro w' ⟨s0, s1, s2, s3, s4, s5⟩; go_simp; with_reducible rfl)
  refine ta_ HT_ HW_ 3 (some 10) #[true, true, true, true, false, false, false, false, false, false, false, false, false, false, false, false, false, false, false, false, false, false] hHeld ?_ (hy := by rintro w' ⟨s0, s1, s2, s3, s4, s5⟩; go_simp; with_reducible rfl)
  refine pu_ HT_ 4 (some 11) #[true, true, true, true, true, false, false, false, false, false, false, false, false, false, false, false, false, false, false, false, false, false] ?_
  refine pu_ HT_ 5 (some 12) #[true, true, true, true, true, true, false, false, false, false, false, false, false, false, false, false, false, false, false, false, false, false] ?_
  refine pv_ HT_ 6 (some 13) #[true, true, true, true, true, true, true, false, false, false, false, false, false, false, false, false, false, false, false, false, false, false] ?_
  refine pv_ HT_ 7 (some 14) #[true, true, true, true, true, true, true, true, false, false, false, false, false, false, false, false, false, false, false, false, false, false] ?_
  refine pv_ HT_ 8 (some 15) #[true, true, true, true, true, true, true, true, true, false, false, false, false, false, false, false, false, false, false, false, false, false] ?_
  refine pv_ HT_ 9 (some 16) #[true, true, true, true, true, true, true, true, true, true, false, false, false, false, false, false, false, false, false, false, false, false] ?_
  refine pv_ HT_ 10 (some 17) #[true, true, true, true, true, true, true, true, true, true, true, false, false, false, false, false, false, false, false, false, false, false] ?_
  refine pv_ HT_ 11 (some 18) #[true, true, true, true, true, true, true, true, true, true, true, true, false, false, false, false, false, false, false, false, false, false] ?_
  refine pv_ HT_ 12 (some 19) #[true, true, true, true, true, true, true, true, true, true, true, true, true, false, false, false, false, false, false, false, false, false] ?_
  refine pv_ HT_ 13 (some 20) #[true, true, true, true, true, true, true, true, true, true, true, true, true, true, false, false, false, false, false, false, false, false] ?_
  refine pv_ HT_ 14 (some 21) #[true, true, true, true, true, true, true, true, true, true, true, true, true, true, true, false, false, false, false, false, false, false] ?_
  refine pv_ HT_ 15 (some 22) #[true, true, true, true, true, true, true, true, true, true, true, true, true, true, true, true, false, false, false, false, false, false] ?_
  refine pv_ HT_ 16 (some 23) #[true, true, true, true, true, true, true, true, true, true, true, true, true, true, true, true, true, false, false, false, false, false] ?_
  refine pv_ HT_ 17 (some 24) #[true, true, true, true, true, true, true, true, true, true, true, true, true, true, true, true, true, true, false, false, false, false] ?_
  refine pv_ HT_ 18 (some 25) #[true, true, true, true, true, true, true, true, true, true, true, true, true, true, true, true, true, true, true, false, false, false] ?_
  refine pv_ HT_ 19 (some 26) #[true, true, true, true, true, true, true, true, true, true, true, true, true, true, true, true, true, true, true, true, false, false] ?_
  refine pu_ HT_ 20 (some 27) #[true, true, true, true, true, true, true, true, true, true, true, true, true, true, true, true, true, true, true, true, true, false] ?_
  refine pu_ HT_ 21 (some 6) #[true, true, true, true, true, true, true, true, true, true, true, true, true, true, true, true, true, true, true, true, true, true] ?_
  refine done_ (done_of HT_.out (by kernel_rfl)) ?_
  try go_wp2
  go_ret
  exact ⟨by first | rfl | (simp [errW_none, errW_some] <;> rfl) | (simp [*, errW_none, errW_some] <;> rfl), by repeat (first | (with_reducible first | exact HB.out | apply below_alloc | apply pw_below_drewN | apply below_drew1 | refine below_set ?_ GE695.out | refine below_set ?_ GE696.out) | exact HB.out)⟩
/-! ### impl_apart: function 118 -/
def impl_apart.f (k : Nat) (a0 : Int) (a1_0 : Int) (a1_1 : Int) (a1_2 : Int) (a2_0 : Int) (a2_1 : Int) (a2_2 : Int) : Option (Bool) := (impl_holds.f k a0 a1_0 a1_1 a1_2 a2_0 a2_1 a2_2).bind fun t702 => (if t702 = true then (some false) else ((impl_holds.f k a0 a2_0 a2_1 a2_2 a1_0 a1_1 a1_2).bind fun t703 => (some (!t703))))
set_option maxHeartbeats 8000000 in
set_option maxRecDepth 100000 in
theorem impl_apart.calls (k : Nat) (a0 : Int) (a1_0 : Int) (a1_1 : Int) (a1_2 : Int) (a2_0 : Int) (a2_1 : Int) (a2_2 : Int) (r : Bool) (w : World) (h : impl_apart.f k a0 a1_0 a1_1 a1_2 a2_0 a2_1 a2_2 = some r) :
  Calls Try.prog 118 #[.int .i64 a0, .agg #[.int .i64 a1_0, .int .i64 a1_1, .int .i64 a1_2], .agg #[.int .i64 a2_0, .int .i64 a2_1, .int .i64 a2_2]] w fun e w' => e = .returned (.bool r) ∧ Below w.heap.size w w' := by
 have hu28 := Try.underlying28
 have HB := Aside0.mk (Below.refl w.heap.size w)
 have H : ((impl_holds.f k a0 a1_0 a1_1 a1_2 a2_0 a2_1 a2_2).bind fun t702 => (if t702 = true then (some false) else ((impl_holds.f k a0 a2_0 a2_1 a2_2 a1_0 a1_1 a1_2).bind fun t703 => (some (!t703))))) = some r := h
 clear h
 replace H := Option.bind_eq_some_iff.mp H
 obtain ⟨t702, A40, H⟩ := H
 have A4 := Aside0.mk A40
 clear A40
 by_cases c5 : t702 = true
 ·subst c5
  have H1 : (some false) = some r := by rw [if_pos rfl] at H; exact H
  clear H
  have H := H1
  clear H1
  obtain rfl := Option.some.inj H
  go_enter Try.func118, Try.ntmps118
  go_wp2_with (first | ((with_reducible refine gate_dst (N := 4) rfl ?_); refine bx_ 4 #[.int .i64 a1_0, .int .i64 a1_1, .int .i64 a1_2] 28 ?_; intro gb700 hg w6 hbox hb; have BK700 := Aside0.mk (hbox); have GW700 := bs_ HB hg; have GE700 := bs_ HB hg; replace HB := bt_ HB hb; clear hb hbox hg) | ((with_reducible refine gate_dst (N := 5) rfl ?_); refine bx_ 5 #[.int .i64 a2_0, .int .i64 a2_1, .int .i64 a2_2] 28 ?_; intro gb701 hg w7 hbox hb; have BK701 := Aside0.mk (hbox); have GW701 := bs_ HB hg; have GE701 := bs_ HB hg; have NB700_701 := bm_ BK700 hg; have NB701_700 := bn_ BK700 hg; replace BK700 := bb_ BK700 hb; replace HB := bt_ HB hb; clear hb hbox hg; have hnb8 := NB700_701.out; have hnc8 := NB701_700.out; have hcz9_0 : w7.cell? ⟨gb700, 0, none⟩ = some (.int .i64 a1_0) := (blk_cell BK700.out 0).trans rfl; have hcz9_1 : w7.cell? ⟨gb700, 1, none⟩ = some (.int .i64 a1_1) := (blk_cell BK700.out 1).trans rfl; have hcz9_2 : w7.cell? ⟨gb700, 2, none⟩ = some (.int .i64 a1_2) := (blk_cell BK700.out 2).trans rfl; have hfz9_0 := blk_frozen BK700.out 0; have hfz9_1 := blk_frozen BK700.out 1; have hfz9_2 := blk_frozen BK700.out 2; have hcz10_0 : w7.cell? ⟨gb701, 0, none⟩ = some (.int .i64 a2_0) := (blk_cell BK701.out 0).trans rfl; have hcz10_1 : w7.cell? ⟨gb701, 1, none⟩ = some (.int .i64 a2_1) := (blk_cell BK701.out 1).trans rfl; have hcz10_2 : w7.cell? ⟨gb701, 2, none⟩ = some (.int .i64 a2_2) := (blk_cell BK701.out 2).trans rfl; have hfz10_0 := blk_frozen BK701.out 0; have hfz10_1 := blk_frozen BK701.out 1; have hfz10_2 := blk_frozen BK701.out 2) | ((with_reducible refine gate_callee (f := 117) rfl ?_); refine goesL_ (some 10) rfl rfl Try.func117 (by kernel_rfl) rfl #[.int .i64 a0, .agg #[.int .i64 a1_0, .int .i64 a1_1, .int .i64 a1_2], .agg #[.int .i64 a2_0, .int .i64 a2_1, .int .i64 a2_2]] rfl (by (try simp only [List.map_toArray, List.map_cons, List.map_nil]); first | done | rfl | (simp only [List.length_drop, List.length_take]; rfl)) ?_; (with_reducible refine (impl_holds.calls k a0 a1_0 a1_1 a1_2 a2_0 a2_1 a2_2 true _ A4.out).mono ?_); rintro e w11 ⟨rfl, hb⟩; refine ⟨_, rfl, ?_⟩; replace BK700 := bb_ BK700 hb; replace BK701 := bb_ BK701 hb; replace HB := bt_ HB hb; (try clear hb); (try clear hb2); (try clear hk); (try clear hi)))
  go_ret
  exact ⟨by first | rfl | (simp [errW_none, errW_some] <;> rfl) | (simp [*, errW_none, errW_some] <;> rfl), by repeat (first | (with_reducible first | exact HB.out | apply below_alloc | apply pw_below_drewN | apply below_drew1 | refine below_set ?_ GE700.out | refine below_set ?_ GE701.out) | exact HB.out)⟩
 ·replace c5 := Bool.eq_false_iff.mpr c5
  subst c5
  have H1 : ((impl_holds.f k a0 a2_0 a2_1 a2_2 a1_0 a1_1 a1_2).bind fun t703 => (some (!t703))) = some r := by rw [if_neg (show ¬ (false = true) by decide)] at H; exact H
  clear H
  have H := H1
  clear H1
  replace H := Option.bind_eq_some_iff.mp H
  obtain ⟨t703, A120, H⟩ := H
  have A12 := Aside0.mk A120
  clear A120
  obtain rfl := Option.some.inj H
  go_enter Try.func118, Try.ntmps118
  go_wp2_with (first | ((with_reducible refine gate_dst (N := 4) rfl ?_); refine bx_ 4 #[.int .i64 a1_0, .int .i64 a1_1, .int .i64 a1_2] 28 ?_; intro gb700 hg w13 hbox hb; have BK700 := Aside0.mk (hbox); have GW700 := bs_ HB hg; have GE700 := bs_ HB hg; replace HB := bt_ HB hb; clear hb hbox hg) | ((with_reducible refine gate_dst (N := 5) rfl ?_); refine bx_ 5 #[.int .i64 a2_0, .int .i64 a2_1, .int .i64 a2_2] 28 ?_; intro gb701 hg w14 hbox hb; have BK701 := Aside0.mk (hbox); have GW701 := bs_ HB hg; have GE701 := bs_ HB hg; have NB700_701 := bm_ BK700 hg; have NB701_700 := bn_ BK700 hg; replace BK700 := bb_ BK700 hb; replace HB := bt_ HB hb; clear hb hbox hg; have hnb15 := NB700_701.out; have hnc15 := NB701_700.out; have hcz16_0 : w14.cell? ⟨gb700, 0, none⟩ = some (.int .i64 a1_0) := (blk_cell BK700.out 0).trans rfl; have hcz16_1 : w14.cell? ⟨gb700, 1, none⟩ = some (.int .i64 a1_1) := (blk_cell BK700.out 1).trans rfl; have hcz16_2 : w14.cell? ⟨gb700, 2, none⟩ = some (.int .i64 a1_2) := (blk_cell BK700.out 2).trans rfl; have hfz16_0 := blk_frozen BK700.out 0; have hfz16_1 := blk_frozen BK700.out 1; have hfz16_2 := blk_frozen BK700.out 2; have hcz17_0 : w14.cell? ⟨gb701, 0, none⟩ = some (.int .i64 a2_0) := (blk_cell BK701.out 0).trans rfl; have hcz17_1 : w14.cell? ⟨gb701, 1, none⟩ = some (.int .i64 a2_1) := (blk_cell BK701.out 1).trans rfl; have hcz17_2 : w14.cell? ⟨gb701, 2, none⟩ = some (.int .i64 a2_2) := (blk_cell BK701.out 2).trans rfl; have hfz17_0 := blk_frozen BK701.out 0; have hfz17_1 := blk_frozen BK701.out 1; have hfz17_2 := blk_frozen BK701.out 2) | ((with_reducible refine gate_callee (f := 117) rfl ?_); refine goesL_ (some 10) rfl rfl Try.func117 (by kernel_rfl) rfl #[.int .i64 a0, .agg #[.int .i64 a1_0, .int .i64 a1_1, .int .i64 a1_2], .agg #[.int .i64 a2_0, .int .i64 a2_1, .int .i64 a2_2]] rfl (by (try simp only [List.map_toArray, List.map_cons, List.map_nil]); first | done | rfl | (simp only [List.length_drop, List.length_take]; rfl)) ?_; (with_reducible refine (impl_holds.calls k a0 a1_0 a1_1 a1_2 a2_0 a2_1 a2_2 false _ A4.out).mono ?_); rintro e w18 ⟨rfl, hb⟩; refine ⟨_, rfl, ?_⟩; replace BK700 := bb_ BK700 hb; replace BK701 := bb_ BK701 hb; replace HB := bt_ HB hb; (try clear hb); (try clear hb2); (try clear hk); (try clear hi); have hcz19_0 : w18.cell? ⟨gb701, 0, none⟩ = some (.int .i64 a2_0) := (blk_cell BK701.out 0).trans rfl; have hcz19_1 : w18.cell? ⟨gb701, 1, none⟩ = some (.int .i64 a2_1) := (blk_cell BK701.out 1).trans rfl; have hcz19_2 : w18.cell? ⟨gb701, 2, none⟩ = some (.int .i64 a2_2) := (blk_cell BK701.out 2).trans rfl; have hfz19_0 := blk_frozen BK701.out 0; have hfz19_1 := blk_frozen BK701.out 1; have hfz19_2 := blk_frozen BK701.out 2; have hcz20_0 : w18.cell? ⟨gb700, 0, none⟩ = some (.int .i64 a1_0) := (blk_cell BK700.out 0).trans rfl; have hcz20_1 : w18.cell? ⟨gb700, 1, none⟩ = some (.int .i64 a1_1) := (blk_cell BK700.out 1).trans rfl; have hcz20_2 : w18.cell? ⟨gb700, 2, none⟩ = some (.int .i64 a1_2) := (blk_cell BK700.out 2).trans rfl; have hfz20_0 := blk_frozen BK700.out 0; have hfz20_1 := blk_frozen BK700.out 1; have hfz20_2 := blk_frozen BK700.out 2) | (go_at_call 117; (with_reducible refine (impl_holds.calls k a0 a2_0 a2_1 a2_2 a1_0 a1_1 a1_2 t703 _ A12.out).mono ?_); rintro e w21 ⟨rfl, hb⟩; replace BK700 := bb_ BK700 hb; replace BK701 := bb_ BK701 hb; replace HB := bt_ HB hb; (try clear hb); (try clear hb2); (try clear hk); (try clear hi)))
  go_ret
  exact ⟨by first | rfl | (simp [errW_none, errW_some] <;> rfl) | (simp [*, errW_none, errW_some] <;> rfl), by repeat (first | (with_reducible first | exact HB.out | apply below_alloc | apply pw_below_drewN | apply below_drew1 | refine below_set ?_ GE700.out | refine below_set ?_ GE701.out) | exact HB.out)⟩
end Go.Proofs.Ytojpcbbmbnmchaa.QC
