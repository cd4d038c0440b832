-- Written by a program of this session out of Lean's own print of the loaded program; Lean checks it.
import Derived.Test.YtoiailmmgfokjaaQCx6
import Derived.Test.YtoiailmmgfokjaaQCx33
namespace Go.Proofs.Ytoiailmmgfokjaa.QC
open Go.RowKit Go.Proofs.YtoiailmmgfokjaaW.PrintWords Go.Proofs.YtoiailmmgfokjaaW.PrintLast Go.Proofs.YtoiailmmgfokjaaW.PrintMore
attribute [local go_sem] isSome_setCell max2_int min2_int max_two min_two max_three min_three max_four min_four   -- for this text's walks alone
set_option linter.unusedVariables false
set_option linter.unusedSimpArgs false

/-! ### impl_mark: function 84 -/
def impl_mark.f (k : Nat) (a0 : Int) (a1_0 : Int) (a1_1 : Int) (a1_2 : Int) : Option (Int) := (impl_power.f k a0 (wrap64 (6 - a1_2))).bind fun t285 => (some (wrap64 (a1_1 * t285)))
set_option maxHeartbeats 8000000 in
set_option maxRecDepth 100000 in
theorem impl_mark.calls (k : Nat) (a0 : Int) (a1_0 : Int) (a1_1 : Int) (a1_2 : Int) (r : Int) (w : World) (h : impl_mark.f k a0 a1_0 a1_1 a1_2 = some r) :
  Calls Try.prog 84 #[.int .i64 a0, .agg #[.int .i64 a1_0, .int .i64 a1_1, .int .i64 a1_2]] w fun e w' => e = .returned (.int .i64 r) ∧ Below w.heap.size w w' := by
 have hu30 := Try.underlying30
 have HB := Aside0.mk (Below.refl w.heap.size w)
 have H : ((impl_power.f k a0 (wrap64 (6 - a1_2))).bind fun t285 => (some (wrap64 (a1_1 * t285)))) = some r := h
 clear h
 replace H := Option.bind_eq_some_iff.mp H
 obtain ⟨t285, A30, H⟩ := H
 have A3 := Aside0.mk A30
 clear A30
 obtain rfl := Option.some.inj H
 go_enter Try.func84, Try.ntmps84
 go_wp2_with (first | ((with_reducible refine gate_dst (N := 3) rfl ?_); refine bx_ 3 #[.int .i64 a1_0, .int .i64 a1_1, .int .i64 a1_2] 30 ?_; intro gb284 hg w4 hbox hb; have BK284 := Aside0.mk (hbox); have GW284 := bs_ HB hg; have GE284 := bs_ HB hg; replace HB := bt_ HB hb; clear hb hbox hg; have hcz5_0 : w4.cell? ⟨gb284, 0, none⟩ = some (.int .i64 a1_0) := cz_ BK284 0; have hcz5_1 : w4.cell? ⟨gb284, 1, none⟩ = some (.int .i64 a1_1) := cz_ BK284 1; have hcz5_2 : w4.cell? ⟨gb284, 2, none⟩ = some (.int .i64 a1_2) := cz_ BK284 2; have hfz5_0 := fz_ BK284 0; have hfz5_1 := fz_ BK284 1; have hfz5_2 := fz_ BK284 2) | (go_at_call 83; (with_reducible refine (impl_power.calls k a0 (wrap64 (6 - a1_2)) t285 _ A3.out).mono ?_); rintro e w' ⟨rfl, ⟨nd, rfl⟩⟩; (try first | exact ⟨rfl, _, World.drewN_drewN _ _ _⟩ | exact ⟨rfl, _, Eq.trans (World.drewN_drewN _ _ _) (congrArg (World.drewN _) (Nat.add_assoc _ _ _))⟩)))
 repeat (go_quiet (first | ((with_reducible refine gate_dst (N := 3) rfl ?_); refine bx_ 3 #[.int .i64 a1_0, .int .i64 a1_1, .int .i64 a1_2] 30 ?_; intro gb284 hg w4 hbox hb; have BK284 := Aside0.mk (hbox); have GW284 := bs_ HB hg; have GE284 := bs_ HB hg; replace HB := bt_ HB hb; clear hb hbox hg; have hcz5_0 : w4.cell? ⟨gb284, 0, none⟩ = some (.int .i64 a1_0) := cz_ BK284 0; have hcz5_1 : w4.cell? ⟨gb284, 1, none⟩ = some (.int .i64 a1_1) := cz_ BK284 1; have hcz5_2 : w4.cell? ⟨gb284, 2, none⟩ = some (.int .i64 a1_2) := cz_ BK284 2; have hfz5_0 := fz_ BK284 0; have hfz5_1 := fz_ BK284 1; have hfz5_2 := fz_ BK284 2) | (go_at_call 83; (with_reducible refine (impl_power.calls k a0 (wrap64 (6 - a1_2)) t285 _ A3.out).mono ?_); rintro e w' ⟨rfl, ⟨nd, rfl⟩⟩; (try first | exact ⟨rfl, _, World.drewN_drewN _ _ _⟩ | exact ⟨rfl, _, Eq.trans (World.drewN_drewN _ _ _) (congrArg (World.drewN _) (Nat.add_assoc _ _ _))⟩))); try go_wp2_with (first | ((with_reducible refine gate_dst (N := 3) rfl ?_); refine bx_ 3 #[.int .i64 a1_0, .int .i64 a1_1, .int .i64 a1_2] 30 ?_; intro gb284 hg w4 hbox hb; have BK284 := Aside0.mk (hbox); have GW284 := bs_ HB hg; have GE284 := bs_ HB hg; replace HB := bt_ HB hb; clear hb hbox hg; have hcz5_0 : w4.cell? ⟨gb284, 0, none⟩ = some (.int .i64 a1_0) := cz_ BK284 0; have hcz5_1 : w4.cell? ⟨gb284, 1, none⟩ = some (.int .i64 a1_1) := cz_ BK284 1; have hcz5_2 : w4.cell? ⟨gb284, 2, none⟩ = some (.int .i64 a1_2) := cz_ BK284 2; have hfz5_0 := fz_ BK284 0; have hfz5_1 := fz_ BK284 1; have hfz5_2 := fz_ BK284 2) | (go_at_call 83; (with_reducible refine (impl_power.calls k a0 (wrap64 (6 - a1_2)) t285 _ A3.out).mono ?_); rintro e w' ⟨rfl, ⟨nd, rfl⟩⟩; (try first | exact ⟨rfl, _, World.drewN_drewN _ _ _⟩ | exact ⟨rfl, _, Eq.trans (World.drewN_drewN _ _ _) (congrArg (World.drewN _) (Nat.add_assoc _ _ _))⟩))))
 go_ret
 exact ⟨by first | rfl | (simp [errW_none, errW_some] <;> rfl) | (simp [*, errW_none, errW_some] <;> rfl), by repeat (first | (with_reducible first | exact HB.out | apply below_alloc | apply pw_below_drewN | apply below_drew1 | refine below_set ?_ GE284.out) | exact HB.out)⟩
/-! ### impl_holds: function 57 -/
def impl_holds.f (k : Nat) (a0 : Int) (a1_0 : Int) (a1_1 : Int) (a1_2 : Int) (a2_0 : Int) (a2_1 : Int) (a2_2 : Int) : Option (Bool) := if a1_0 ≤ a2_0 then ((impl_mark.f k a0 a2_0 a2_1 a2_2).bind fun t288 => ((impl_mark.f k a0 a1_0 a1_1 a1_2).bind fun t289 => ((impl_power.f k a0 (wrap64 (a1_0 + 6))).bind fun t290 => (if t290 = 0 then (none) else (some ((Int.tmod (wrap64 (t288 - t289)) t290) == 0)))))) else (some false)
def impl_holds.T1 : Bool × List (List Nat × List Nat) := (true, [([], []), ([0], [0]), ([], []), ([2], [2]), ([1, 3], [1, 3]), ([4], [4]), ([5], [5]), ([5], [5]), ([6, 7, 5, 5], [5, 6, 7]), ([5], [5]), ([5], [5]), ([9, 10, 8, 5], [5, 9, 10]), ([8, 11, 5], [5, 8, 11]), ([5], [5]), ([5], [5]), ([14, 5], [5, 14]), ([15, 5], [5, 15]), ([13, 16, 11, 5], [5, 13, 16]), ([12, 17, 5], [5, 12, 17]), ([18, 5], [5, 18]), ([5, 19], [5, 19]), ([20, 17, 0, 1, 2, 3, 4, 5, 6, 7, 8, 9, 10, 11, 12, 13, 14, 15, 16, 17, 18, 19, 20], [20])])
def impl_holds.B1 : List Nat := [0, 1, 0, 4, 15, 31, 63, 63, 255, 63, 63, 2047, 4095, 63, 63, 16447, 49215, 126975, 262143, 524287, 1048575, 2097151]
theorem impl_holds.tab1 : rtab .any (opsOf Try.f57 1) = impl_holds.T1 := by kernel_rfl
theorem impl_holds.bits1 : waitsOk impl_holds.T1.2 impl_holds.B1 = true := by kernel_rfl
set_option maxHeartbeats 8000000 in
set_option maxRecDepth 100000 in
theorem impl_holds.calls (k : Nat) (a0 : Int) (a1_0 : Int) (a1_1 : Int) (a1_2 : Int) (a2_0 : Int) (a2_1 : Int) (a2_2 : Int) (r : Bool) (w : World) (h : impl_holds.f k a0 a1_0 a1_1 a1_2 a2_0 a2_1 a2_2 = some r) :
  Calls Try.prog 57 #[.int .i64 a0, .agg #[.int .i64 a1_0, .int .i64 a1_1, .int .i64 a1_2], .agg #[.int .i64 a2_0, .int .i64 a2_1, .int .i64 a2_2]] w fun e w' => e = .returned (.bool r) ∧ Below w.heap.size w w' := by
 have hu30 := Try.underlying30
 have HB := Aside0.mk (Below.refl w.heap.size w)
 have H : (if a1_0 ≤ a2_0 then ((impl_mark.f k a0 a2_0 a2_1 a2_2).bind fun t288 => ((impl_mark.f k a0 a1_0 a1_1 a1_2).bind fun t289 => ((impl_power.f k a0 (wrap64 (a1_0 + 6))).bind fun t290 => (if t290 = 0 then (none) else (some ((Int.tmod (wrap64 (t288 - t289)) t290) == 0)))))) else (some false)) = some r := h
 clear h
 by_cases c4 : a1_0 ≤ a2_0
 ·rw [if_pos c4] at H
  have c4b0 : decide (a1_0 ≤ a2_0) = true := decide_eq_true c4
  clear c4
  replace H := Option.bind_eq_some_iff.mp H
  obtain ⟨t288, A50, H⟩ := H
  have A5 := Aside0.mk A50
  clear A50
  replace H := Option.bind_eq_some_iff.mp H
  obtain ⟨t289, A60, H⟩ := H
  have A6 := Aside0.mk A60
  clear A60
  replace H := Option.bind_eq_some_iff.mp H
  obtain ⟨t290, A70, H⟩ := H
  have A7 := Aside0.mk A70
  clear A70
  by_cases c8 : t290 = 0
  ·rw [if_pos c8] at H
   exact absurd H (by simp)
  ·rw [if_neg c8] at H
   have c8b0 : (t290 == 0) = false := beq_eq_false_iff_ne.mpr c8
   have c8b1 : (t290 != 0) = true := bne_iff_ne.mpr c8
   obtain rfl := Option.some.inj H
   go_enter Try.func57, Try.ntmps57
   try go_wp2_with (first | ((with_reducible refine gate_dst (N := 4) rfl ?_); refine bx_ 4 #[.int .i64 a1_0, .int .i64 a1_1, .int .i64 a1_2] 30 ?_; intro gb286 hg w9 hbox hb; have BK286 := Aside0.mk (hbox); have GW286 := bs_ HB hg; have GE286 := bs_ HB hg; replace HB := bt_ HB hb; clear hb hbox hg) | ((with_reducible refine gate_dst (N := 5) rfl ?_); refine bx_ 5 #[.int .i64 a2_0, .int .i64 a2_1, .int .i64 a2_2] 30 ?_; intro gb287 hg w10 hbox hb; have BK287 := Aside0.mk (hbox); have GW287 := bs_ HB hg; have GE287 := bs_ HB hg; have NB286_287 := bm_ BK286 hg; have NB287_286 := bn_ BK286 hg; replace BK286 := bb_ BK286 hb; replace HB := bt_ HB hb; clear hb hbox hg))
   replace BK286 := Aside0.mk (blk_drew BK286.out)
   replace BK287 := Aside0.mk (blk_drew BK287.out)
   replace HB := Aside0.mk (below_drew1 HB.out)
   refine start_ (n := 22) (S := fun w' => w'.cell? ⟨gb286, 0, none⟩ = some (.int .i64 a1_0) ∧ w'.cell? ⟨gb286, 1, none⟩ = some (.int .i64 a1_1) ∧ w'.cell? ⟨gb286, 2, none⟩ = some (.int .i64 a1_2) ∧ w'.cell? ⟨gb287, 0, none⟩ = some (.int .i64 a2_0) ∧ w'.cell? ⟨gb287, 1, none⟩ = some (.int .i64 a2_1) ∧ w'.cell? ⟨gb287, 2, none⟩ = some (.int .i64 a2_2)) (ds := []) (bv_ 22 0) (by kernel_rfl) rfl rfl ⟨(blk_cell BK286.out 0).trans rfl, (blk_cell BK286.out 1).trans rfl, (blk_cell BK286.out 2).trans rfl, (blk_cell BK287.out 0).trans rfl, (blk_cell BK287.out 1).trans rfl, (blk_cell BK287.out 2).trans rfl⟩ (fun hHeld => ?_); refine with_tabW impl_holds.tab1 impl_holds.bits1 (fun HT_ HW_ => ?_)
   generalize w10.drew = w11 at BK286 BK287 HB hHeld ⊢
   refine pu_ HT_ 0 (some 7) (bv_ 22 1) ?_
   refine pu_ HT_ 2 (some 9) (bv_ 22 5) ?_
   refine ta_ HT_ HW_ 1 (some 8) (bv_ 22 7) hHeld ?_ (hy := by rintro w' ⟨s0, s1, s2, s3, s4, s5⟩; go_simp; with_reducible rfl)
   refine ta_ HT_ HW_ 3 (some 10) (bv_ 22 15) hHeld ?_ (hy := by rintro w' ⟨s0, s1, s2, s3, s4, s5⟩; go_simp; with_reducible rfl)
   refine pu_ HT_ 4 (some 11) (bv_ 22 31) ?_
   refine pu_ HT_ 5 (some 12) (bv_ 22 63) ?_
   refine pu_ HT_ 6 (some 13) (bv_ 22 127) ?_
   refine pu_ HT_ 9 (some 16) (bv_ 22 639) ?_
   refine pu_ HT_ 13 (some 20) (bv_ 22 8831) ?_
   refine pu_ HT_ 14 (some 21) (bv_ 22 25215) ?_
   refine ta_ HT_ HW_ 7 (some 14) (bv_ 22 25343) hHeld ?_ (hy := by rintro w' ⟨s0, s1, s2, s3, s4, s5⟩; go_simp; with_reducible rfl)
   refine ta_ HT_ HW_ 10 (some 17) (bv_ 22 26367) hHeld ?_ (hy := by rintro w' ⟨s0, s1, s2, s3, s4, s5⟩; go_simp; with_reducible rfl)
   refine ta_ HT_ HW_ 15 (some 22) (bv_ 22 59135) hHeld ?_ (hy := by rintro w' ⟨s0, s1, s2, s3, s4, s5⟩; go_simp; with_reducible rfl)
   refine pu_ HT_ 16 (some 23) (bv_ 22 124671) ?_
   refine one_ (i := 8) (N := some 15) (bv_ 22 124927) rfl rfl (one_of HT_.out (by kernel_rfl)) (by decide) (fun K hK => ?_)
   refine goes_ Try.func84 (by kernel_rfl) rfl #[.int .i64 a0, .agg #[.int .i64 a2_0, .int .i64 a2_1, .int .i64 a2_2]] (by rfl) rfl rfl (by (try simp only [List.map_toArray, List.map_cons, List.map_nil]); first | done | rfl | (simp only [List.length_drop, List.length_take]; rfl)) ?_
   with_reducible refine (impl_mark.calls k a0 a2_0 a2_1 a2_2 t288 _ A5.out).mono ?_
   rintro e w12 ⟨rfl, hb⟩
   refine ⟨_, rfl, ?_⟩
   replace BK286 := bb_ BK286 hb
   replace BK287 := bb_ BK287 hb
   replace HB := bt_ HB hb
   (try clear hb)
   (try clear hb2)
   (try clear hk)
   (try clear hi)
   refine hK.out _ _ ⟨(blk_cell BK286.out 0).trans rfl, (blk_cell BK286.out 1).trans rfl, (blk_cell BK286.out 2).trans rfl, (blk_cell BK287.out 0).trans rfl, (blk_cell BK287.out 1).trans rfl, (blk_cell BK287.out 2).trans rfl⟩ (fun hHeld => ?_)
   clear hK K
   refine norm_ (a' := ?_) ?_ ?_
   rotate_left
   ·show Act.put _ (some 15) _ = _
    simp only [Act.put, lstS, lstZ, lstC, i64_w, i32_w]
    rfl
   refine one_ (i := 11) (N := some 18) (bv_ 22 126975) rfl rfl (one_of HT_.out (by kernel_rfl)) (by decide) (fun K hK => ?_)
   refine goes_ Try.func84 (by kernel_rfl) rfl #[.int .i64 a0, .agg #[.int .i64 a1_0, .int .i64 a1_1, .int .i64 a1_2]] (by rfl) rfl rfl (by (try simp only [List.map_toArray, List.map_cons, List.map_nil]); first | done | rfl | (simp only [List.length_drop, List.length_take]; rfl)) ?_
   with_reducible refine (impl_mark.calls k a0 a1_0 a1_1 a1_2 t289 _ A6.out).mono ?_
   rintro e w13 ⟨rfl, hb⟩
   refine ⟨_, rfl, ?_⟩
   replace BK286 := bb_ BK286 hb
   replace BK287 := bb_ BK287 hb
   replace HB := bt_ HB hb
   (try clear hb)
   (try clear hb2)
   (try clear hk)
   (try clear hi)
   refine hK.out _ _ ⟨(blk_cell BK286.out 0).trans rfl, (blk_cell BK286.out 1).trans rfl, (blk_cell BK286.out 2).trans rfl, (blk_cell BK287.out 0).trans rfl, (blk_cell BK287.out 1).trans rfl, (blk_cell BK287.out 2).trans rfl⟩ (fun hHeld => ?_)
   clear hK K
   refine norm_ (a' := ?_) ?_ ?_
   rotate_left
   ·show Act.put _ (some 18) _ = _
    simp only [Act.put, lstS, lstZ, lstC, i64_w, i32_w]
    rfl
   refine pu_ HT_ 12 (some 19) (bv_ 22 131071) ?_
   refine one_ (i := 17) (N := some 24) (bv_ 22 262143) rfl rfl (one_of HT_.out (by kernel_rfl)) (by decide) (fun K hK => ?_)
   refine goes_ Try.func83 (by kernel_rfl) rfl #[.int .i64 a0, .int .i64 (wrap64 (a1_0 + 6))] (by rfl) rfl rfl (by (try simp only [List.map_toArray, List.map_cons, List.map_nil]); first | done | rfl | (simp only [List.length_drop, List.length_take]; rfl)) ?_
   with_reducible refine (impl_power.calls k a0 (wrap64 (a1_0 + 6)) t290 _ A7.out).mono ?_
   rintro e w' ⟨rfl, ⟨nd, rfl⟩⟩
   refine ⟨_, rfl, ?_⟩
   refine hK.out _ _ ⟨(blk_cell BK286.out 0).trans rfl, (blk_cell BK286.out 1).trans rfl, (blk_cell BK286.out 2).trans rfl, (blk_cell BK287.out 0).trans rfl, (blk_cell BK287.out 1).trans rfl, (blk_cell BK287.out 2).trans rfl⟩ (fun hHeld => ?_)
   clear hK K
   refine norm_ (a' := ?_) ?_ ?_
   rotate_left
   ·show Act.put _ (some 24) _ = _
    simp only [Act.put, lstS, lstZ, lstC, i64_w, i32_w]
    rfl
   refine pu_ HT_ 18 (some 25) (bv_ 22 524287) ?_
   refine pu_ HT_ 19 (some 26) (bv_ 22 1048575) ?_
   refine pu_ HT_ 20 (some 27) (bv_ 22 2097151) ?_
   refine pu_ HT_ 21 (some 6) (bv_ 22 4194303) ?_
   refine done_ (done_of HT_.out (by kernel_rfl)) ?_
   try go_wp2
   go_ret
   exact ⟨by first | rfl | (simp [errW_none, errW_some] <;> rfl) | (simp [*, errW_none, errW_some] <;> rfl), by repeat (first | (with_reducible first | exact HB.out | apply below_alloc | apply pw_below_drewN | apply below_drew1 | refine below_set ?_ GE286.out | refine below_set ?_ GE287.out) | exact HB.out)⟩
 ·rw [if_neg c4] at H
  have c4b0 : decide (a1_0 ≤ a2_0) = false := decide_eq_false c4
  clear c4
  obtain rfl := Option.some.inj H
  go_enter Try.func57, Try.ntmps57
  try go_wp2_with (first | ((with_reducible refine gate_dst (N := 4) rfl ?_); refine bx_ 4 #[.int .i64 a1_0, .int .i64 a1_1, .int .i64 a1_2] 30 ?_; intro gb286 hg w14 hbox hb; have BK286 := Aside0.mk (hbox); have GW286 := bs_ HB hg; have GE286 := bs_ HB hg; replace HB := bt_ HB hb; clear hb hbox hg) | ((with_reducible refine gate_dst (N := 5) rfl ?_); refine bx_ 5 #[.int .i64 a2_0, .int .i64 a2_1, .int .i64 a2_2] 30 ?_; intro gb287 hg w15 hbox hb; have BK287 := Aside0.mk (hbox); have GW287 := bs_ HB hg; have GE287 := bs_ HB hg; have NB286_287 := bm_ BK286 hg; have NB287_286 := bn_ BK286 hg; replace BK286 := bb_ BK286 hb; replace HB := bt_ HB hb; clear hb hbox hg))
  replace BK286 := Aside0.mk (blk_drew BK286.out)
  replace BK287 := Aside0.mk (blk_drew BK287.out)
  replace HB := Aside0.mk (below_drew1 HB.out)
  refine start_ (n := 22) (S := fun w' => w'.cell? ⟨gb286, 0, none⟩ = some (.int .i64 a1_0) ∧ w'.cell? ⟨gb286, 1, none⟩ = some (.int .i64 a1_1) ∧ w'.cell? ⟨gb286, 2, none⟩ = some (.int .i64 a1_2) ∧ w'.cell? ⟨gb287, 0, none⟩ = some (.int .i64 a2_0) ∧ w'.cell? ⟨gb287, 1, none⟩ = some (.int .i64 a2_1) ∧ w'.cell? ⟨gb287, 2, none⟩ = some (.int .i64 a2_2)) (ds := []) (bv_ 22 0) (by kernel_rfl) rfl rfl ⟨(blk_cell BK286.out 0).trans rfl, (blk_cell BK286.out 1).trans rfl, (blk_cell BK286.out 2).trans rfl, (blk_cell BK287.out 0).trans rfl, (blk_cell BK287.out 1).trans rfl, (blk_cell BK287.out 2).trans rfl⟩ (fun hHeld => ?_); refine with_tabW impl_holds.tab1 impl_holds.bits1 (fun HT_ HW_ => ?_)
  generalize w15.drew = w16 at BK286 BK287 HB hHeld ⊢
  refine pu_ HT_ 0 (some 7) (bv_ 22 1) ?_
  refine pu_ HT_ 2 (some 9) (bv_ 22 5) ?_
  refine ta_ HT_ HW_ 1 (some 8) (bv_ 22 7) hHeld ?_ (hy := by rintro w' ⟨s0, s1, s2, s3, s4, s5⟩; go_simp; with_reducible rfl)
  refine ta_ HT_ HW_ 3 (some 10) (bv_ 22 15) hHeld ?_ (hy := by rintro w' ⟨s0, s1, s2, s3, s4, s5⟩; go_simp; with_reducible rfl)
  refine pu_ HT_ 4 (some 11) (bv_ 22 31) ?_
  refine pu_ HT_ 5 (some 12) (bv_ 22 63) ?_
  refine pv_ HT_ 6 (some 13) (bv_ 22 127) ?_
  refine pv_ HT_ 7 (some 14) (bv_ 22 255) ?_
  refine pv_ HT_ 8 (some 15) (bv_ 22 511) ?_
  refine pv_ HT_ 9 (some 16) (bv_ 22 1023) ?_
  refine pv_ HT_ 10 (some 17) (bv_ 22 2047) ?_
  refine pv_ HT_ 11 (some 18) (bv_ 22 4095) ?_
  refine pv_ HT_ 12 (some 19) (bv_ 22 8191) ?_
  refine pv_ HT_ 13 (some 20) (bv_ 22 16383) ?_
  refine pv_ HT_ 14 (some 21) (bv_ 22 32767) ?_
  refine pv_ HT_ 15 (some 22) (bv_ 22 65535) ?_
  refine pv_ HT_ 16 (some 23) (bv_ 22 131071) ?_
  refine pv_ HT_ 17 (some 24) (bv_ 22 262143) ?_
  refine pv_ HT_ 18 (some 25) (bv_ 22 524287) ?_
  refine pv_ HT_ 19 (some 26) (bv_ 22 1048575) ?_
  refine pu_ HT_ 20 (some 27) (bv_ 22 2097151) ?_
  refine pu_ HT_ 21 (some 6) (bv_ 22 4194303) ?_
  refine done_ (done_of HT_.out (by kernel_rfl)) ?_
  try go_wp2
  go_ret
  exact ⟨by first | rfl | (simp [errW_none, errW_some] <;> rfl) | (simp [*, errW_none, errW_some] <;> rfl), by repeat (first | (with_reducible first | exact HB.out | apply below_alloc | apply pw_below_drewN | apply below_drew1 | refine below_set ?_ GE286.out | refine below_set ?_ GE287.out) | exact HB.out)⟩
/-! ### impl_apart: function 86 -/
def impl_apart.f (k : Nat) (a0 : Int) (a1_0 : Int) (a1_1 : Int) (a1_2 : Int) (a2_0 : Int) (a2_1 : Int) (a2_2 : Int) : Option (Bool) := (impl_holds.f k a0 a1_0 a1_1 a1_2 a2_0 a2_1 a2_2).bind fun t293 => (if t293 = true then (some false) else ((impl_holds.f k a0 a2_0 a2_1 a2_2 a1_0 a1_1 a1_2).bind fun t294 => (some (!t294))))
set_option maxHeartbeats 8000000 in
set_option maxRecDepth 100000 in
theorem impl_apart.calls (k : Nat) (a0 : Int) (a1_0 : Int) (a1_1 : Int) (a1_2 : Int) (a2_0 : Int) (a2_1 : Int) (a2_2 : Int) (r : Bool) (w : World) (h : impl_apart.f k a0 a1_0 a1_1 a1_2 a2_0 a2_1 a2_2 = some r) :
  Calls Try.prog 86 #[.int .i64 a0, .agg #[.int .i64 a1_0, .int .i64 a1_1, .int .i64 a1_2], .agg #[.int .i64 a2_0, .int .i64 a2_1, .int .i64 a2_2]] w fun e w' => e = .returned (.bool r) ∧ Below w.heap.size w w' := by
 have hu30 := Try.underlying30
 have HB := Aside0.mk (Below.refl w.heap.size w)
 have H : ((impl_holds.f k a0 a1_0 a1_1 a1_2 a2_0 a2_1 a2_2).bind fun t293 => (if t293 = true then (some false) else ((impl_holds.f k a0 a2_0 a2_1 a2_2 a1_0 a1_1 a1_2).bind fun t294 => (some (!t294))))) = some r := h
 clear h
 replace H := Option.bind_eq_some_iff.mp H
 obtain ⟨t293, A40, H⟩ := H
 have A4 := Aside0.mk A40
 clear A40
 by_cases c5 : t293 = true
 ·subst c5
  have H1 : (some false) = some r := by rw [if_pos rfl] at H; exact H
  clear H
  have H := H1
  clear H1
  obtain rfl := Option.some.inj H
  go_enter Try.func86, Try.ntmps86
  go_wp2_with (first | ((with_reducible refine gate_dst (N := 4) rfl ?_); refine bx_ 4 #[.int .i64 a1_0, .int .i64 a1_1, .int .i64 a1_2] 30 ?_; intro gb291 hg w6 hbox hb; have BK291 := Aside0.mk (hbox); have GW291 := bs_ HB hg; have GE291 := bs_ HB hg; replace HB := bt_ HB hb; clear hb hbox hg) | ((with_reducible refine gate_dst (N := 5) rfl ?_); refine bx_ 5 #[.int .i64 a2_0, .int .i64 a2_1, .int .i64 a2_2] 30 ?_; intro gb292 hg w7 hbox hb; have BK292 := Aside0.mk (hbox); have GW292 := bs_ HB hg; have GE292 := bs_ HB hg; have NB291_292 := bm_ BK291 hg; have NB292_291 := bn_ BK291 hg; replace BK291 := bb_ BK291 hb; replace HB := bt_ HB hb; clear hb hbox hg; have hnb8 := NB291_292.out; have hnc8 := NB292_291.out; have hcz9_0 : w7.cell? ⟨gb291, 0, none⟩ = some (.int .i64 a1_0) := cz_ BK291 0; have hcz9_1 : w7.cell? ⟨gb291, 1, none⟩ = some (.int .i64 a1_1) := cz_ BK291 1; have hcz9_2 : w7.cell? ⟨gb291, 2, none⟩ = some (.int .i64 a1_2) := cz_ BK291 2; have hfz9_0 := fz_ BK291 0; have hfz9_1 := fz_ BK291 1; have hfz9_2 := fz_ BK291 2; have hcz10_0 : w7.cell? ⟨gb292, 0, none⟩ = some (.int .i64 a2_0) := cz_ BK292 0; have hcz10_1 : w7.cell? ⟨gb292, 1, none⟩ = some (.int .i64 a2_1) := cz_ BK292 1; have hcz10_2 : w7.cell? ⟨gb292, 2, none⟩ = some (.int .i64 a2_2) := cz_ BK292 2; have hfz10_0 := fz_ BK292 0; have hfz10_1 := fz_ BK292 1; have hfz10_2 := fz_ BK292 2) | ((with_reducible refine gate_callee (f := 57) rfl ?_); refine ge_ 10 Try.func57 #[.int .i64 a0, .agg #[.int .i64 a1_0, .int .i64 a1_1, .int .i64 a1_2], .agg #[.int .i64 a2_0, .int .i64 a2_1, .int .i64 a2_2]] ?_; (with_reducible refine (impl_holds.calls k a0 a1_0 a1_1 a1_2 a2_0 a2_1 a2_2 true _ A4.out).mono ?_); rintro e w11 ⟨rfl, hb⟩; refine ⟨_, rfl, ?_⟩; replace BK291 := bb_ BK291 hb; replace BK292 := bb_ BK292 hb; replace HB := bt_ HB hb; (try clear hb); (try clear hb2); (try clear hk); (try clear hi)))
  go_ret
  exact ⟨by first | rfl | (simp [errW_none, errW_some] <;> rfl) | (simp [*, errW_none, errW_some] <;> rfl), by repeat (first | (with_reducible first | exact HB.out | apply below_alloc | apply pw_below_drewN | apply below_drew1 | refine below_set ?_ GE291.out | refine below_set ?_ GE292.out) | exact HB.out)⟩
 ·replace c5 := Bool.eq_false_iff.mpr c5
  subst c5
  have H1 : ((impl_holds.f k a0 a2_0 a2_1 a2_2 a1_0 a1_1 a1_2).bind fun t294 => (some (!t294))) = some r := by rw [if_neg (show ¬ (false = true) by decide)] at H; exact H
  clear H
  have H := H1
  clear H1
  replace H := Option.bind_eq_some_iff.mp H
  obtain ⟨t294, A120, H⟩ := H
  have A12 := Aside0.mk A120
  clear A120
  obtain rfl := Option.some.inj H
  go_enter Try.func86, Try.ntmps86
  go_wp2_with (first | ((with_reducible refine gate_dst (N := 4) rfl ?_); refine bx_ 4 #[.int .i64 a1_0, .int .i64 a1_1, .int .i64 a1_2] 30 ?_; intro gb291 hg w13 hbox hb; have BK291 := Aside0.mk (hbox); have GW291 := bs_ HB hg; have GE291 := bs_ HB hg; replace HB := bt_ HB hb; clear hb hbox hg) | ((with_reducible refine gate_dst (N := 5) rfl ?_); refine bx_ 5 #[.int .i64 a2_0, .int .i64 a2_1, .int .i64 a2_2] 30 ?_; intro gb292 hg w14 hbox hb; have BK292 := Aside0.mk (hbox); have GW292 := bs_ HB hg; have GE292 := bs_ HB hg; have NB291_292 := bm_ BK291 hg; have NB292_291 := bn_ BK291 hg; replace BK291 := bb_ BK291 hb; replace HB := bt_ HB hb; clear hb hbox hg; have hnb15 := NB291_292.out; have hnc15 := NB292_291.out; have hcz16_0 : w14.cell? ⟨gb291, 0, none⟩ = some (.int .i64 a1_0) := cz_ BK291 0; have hcz16_1 : w14.cell? ⟨gb291, 1, none⟩ = some (.int .i64 a1_1) := cz_ BK291 1; have hcz16_2 : w14.cell? ⟨gb291, 2, none⟩ = some (.int .i64 a1_2) := cz_ BK291 2; have hfz16_0 := fz_ BK291 0; have hfz16_1 := fz_ BK291 1; have hfz16_2 := fz_ BK291 2; have hcz17_0 : w14.cell? ⟨gb292, 0, none⟩ = some (.int .i64 a2_0) := cz_ BK292 0; have hcz17_1 : w14.cell? ⟨gb292, 1, none⟩ = some (.int .i64 a2_1) := cz_ BK292 1; have hcz17_2 : w14.cell? ⟨gb292, 2, none⟩ = some (.int .i64 a2_2) := cz_ BK292 2; have hfz17_0 := fz_ BK292 0; have hfz17_1 := fz_ BK292 1; have hfz17_2 := fz_ BK292 2) | ((with_reducible refine gate_callee (f := 57) rfl ?_); refine ge_ 10 Try.func57 #[.int .i64 a0, .agg #[.int .i64 a1_0, .int .i64 a1_1, .int .i64 a1_2], .agg #[.int .i64 a2_0, .int .i64 a2_1, .int .i64 a2_2]] ?_; (with_reducible refine (impl_holds.calls k a0 a1_0 a1_1 a1_2 a2_0 a2_1 a2_2 false _ A4.out).mono ?_); rintro e w18 ⟨rfl, hb⟩; refine ⟨_, rfl, ?_⟩; replace BK291 := bb_ BK291 hb; replace BK292 := bb_ BK292 hb; replace HB := bt_ HB hb; (try clear hb); (try clear hb2); (try clear hk); (try clear hi); have hcz19_0 : w18.cell? ⟨gb292, 0, none⟩ = some (.int .i64 a2_0) := cz_ BK292 0; have hcz19_1 : w18.cell? ⟨gb292, 1, none⟩ = some (.int .i64 a2_1) := cz_ BK292 1; have hcz19_2 : w18.cell? ⟨gb292, 2, none⟩ = some (.int .i64 a2_2) := cz_ BK292 2; have hfz19_0 := fz_ BK292 0; have hfz19_1 := fz_ BK292 1; have hfz19_2 := fz_ BK292 2; have hcz20_0 : w18.cell? ⟨gb291, 0, none⟩ = some (.int .i64 a1_0) := cz_ BK291 0; have hcz20_1 : w18.cell? ⟨gb291, 1, none⟩ = some (.int .i64 a1_1) := cz_ BK291 1; have hcz20_2 : w18.cell? ⟨gb291, 2, none⟩ = some (.int .i64 a1_2) := cz_ BK291 2; have hfz20_0 := fz_ BK291 0; have hfz20_1 := fz_ BK291 1; have hfz20_2 := fz_ BK291 2) | (go_at_call 57; (with_reducible refine (impl_holds.calls k a0 a2_0 a2_1 a2_2 a1_0 a1_1 a1_2 t294 _ A12.out).mono ?_); rintro e w21 ⟨rfl, hb⟩; replace BK291 := bb_ BK291 hb; replace BK292 := bb_ BK292 hb; replace HB := bt_ HB hb; (try clear hb); (try clear hb2); (try clear hk); (try clear hi)))
  go_ret
  exact ⟨by first | rfl | (simp [errW_none, errW_some] <;> rfl) | (simp [*, errW_none, errW_some] <;> rfl), by repeat (first | (with_reducible first | exact HB.out | apply below_alloc | apply pw_below_drewN | apply below_drew1 | refine below_set ?_ GE291.out | refine below_set ?_ GE292.out) | exact HB.out)⟩
end Go.Proofs.Ytoiailmmgfokjaa.QC
