-- Written by a program of this session out of Lean's own print of the loaded program; Lean checks it.
import Derived.Test.YtojpcbbmbnmchaaQCx4
import Derived.Test.YtojpcbbmbnmchaaQCx1
import Derived.Test.YtojpcbbmbnmchaaQCx12
import Derived.Test.YtojpcbbmbnmchaaQCx28
namespace Go.Proofs.Ytojpcbbmbnmchaa.QC
open Go.RowKit Go.Proofs.YtojpcbbmbnmchaaW.PrintWords Go.Proofs.YtojpcbbmbnmchaaW.PrintLast Go.Proofs.YtojpcbbmbnmchaaW.PrintMore
attribute [local go_sem] isSome_setCell max2_int min2_int max_two min_two max_three min_three max_four min_four   -- for this text's walks alone
set_option linter.unusedVariables false
set_option linter.unusedSimpArgs false

attribute [local go_sem high] eqA28
/-! ### spec_l01Holds: function 110 -/
def spec_l01Holds.f (k : Nat) (a0 : Int) (a1_0 : Int) (a1_1 : Int) (a1_2 : Int) (a2_0 : Int) (a2_1 : Int) (a2_2 : Int) : Option (Bool) := if a1_0 > a2_0 then (some false) else ((spec_l01Power.f k a0 a2_2).bind fun t609 => ((spec_l01Of.f k a0 a2_1 t609 a1_0).bind fun bt610 => (if bt610.2.2.2 = true then (some (bt610.1 == a1_0 && (bt610.2.1 == a1_1 && (bt610.2.2.1 == a1_2)))) else (some false))))
def spec_l01Holds.T3 : Bool × List (List Nat × List Nat) := (true, [([], []), ([], []), ([1], [1]), ([], []), ([], []), ([4], [4]), ([3, 5], [3, 5]), ([], []), ([7], [7]), ([0, 2, 6, 8, 6], [0, 2, 6, 8]), ([9], [9]), ([10], [10]), ([10], [10]), ([], []), ([13, 11, 9, 0, 1, 2, 3, 4, 5, 6, 7, 8, 9, 10, 11, 13], [11, 13]), ([12, 14, 0, 1, 2, 3, 4, 5, 6, 7, 8, 9, 10, 11, 12, 13, 14], [12])])
def spec_l01Holds.B3 : List Nat := [0, 0, 2, 0, 0, 16, 56, 0, 128, 511, 1023, 2047, 2047, 0, 12287, 32767]
theorem spec_l01Holds.tab3 : rtab .any (opsOf Try.f110 3) = spec_l01Holds.T3 := by kernel_rfl
theorem spec_l01Holds.bits3 : waitsOk spec_l01Holds.T3.2 spec_l01Holds.B3 = true := by kernel_rfl
set_option maxHeartbeats 8000000 in
set_option maxRecDepth 100000 in
theorem spec_l01Holds.calls (k : Nat) (a0 : Int) (a1_0 : Int) (a1_1 : Int) (a1_2 : Int) (a2_0 : Int) (a2_1 : Int) (a2_2 : Int) (r : Bool) (w : World) (h : spec_l01Holds.f k a0 a1_0 a1_1 a1_2 a2_0 a2_1 a2_2 = some r) :
  Calls Try.prog 110 #[.int .i64 a0, .agg #[.int .i64 a1_0, .int .i64 a1_1, .int .i64 a1_2], .agg #[.int .i64 a2_0, .int .i64 a2_1, .int .i64 a2_2]] w fun e w' => e = .returned (.bool r) ∧ Below w.heap.size w w' := by
 have hu28 := Try.underlying28
 have HB := Aside0.mk (Below.refl w.heap.size w)
 have H : (if a1_0 > a2_0 then (some false) else ((spec_l01Power.f k a0 a2_2).bind fun t609 => ((spec_l01Of.f k a0 a2_1 t609 a1_0).bind fun bt610 => (if bt610.2.2.2 = true then (some (bt610.1 == a1_0 && (bt610.2.1 == a1_1 && (bt610.2.2.1 == a1_2)))) else (some false))))) = some r := h
 clear h
 by_cases c4 : a1_0 > a2_0
 ·rw [if_pos c4] at H
  have c4b0 : decide (a2_0 < a1_0) = true := decide_eq_true c4
  clear c4
  obtain rfl := Option.some.inj H
  go_enter Try.func110, Try.ntmps110
  go_wp2_with (first | ((with_reducible refine gate_dst (N := 4) rfl ?_); refine bx_ 4 #[.int .i64 a1_0, .int .i64 a1_1, .int .i64 a1_2] 28 ?_; intro gb607 hg w5 hbox hb; have BK607 := Aside0.mk (hbox); have GW607 := bs_ HB hg; have GE607 := bs_ HB hg; replace HB := bt_ HB hb; clear hb hbox hg) | ((with_reducible refine gate_dst (N := 5) rfl ?_); refine bx_ 5 #[.int .i64 a2_0, .int .i64 a2_1, .int .i64 a2_2] 28 ?_; intro gb608 hg w6 hbox hb; have BK608 := Aside0.mk (hbox); have GW608 := bs_ HB hg; have GE608 := bs_ HB hg; have NB607_608 := bm_ BK607 hg; have NB608_607 := bn_ BK607 hg; replace BK607 := bb_ BK607 hb; replace HB := bt_ HB hb; clear hb hbox hg; have hnb7 := NB607_608.out; have hnc7 := NB608_607.out; have hcz8_0 : w6.cell? ⟨gb607, 0, none⟩ = some (.int .i64 a1_0) := (blk_cell BK607.out 0).trans rfl; have hcz8_1 : w6.cell? ⟨gb607, 1, none⟩ = some (.int .i64 a1_1) := (blk_cell BK607.out 1).trans rfl; have hcz8_2 : w6.cell? ⟨gb607, 2, none⟩ = some (.int .i64 a1_2) := (blk_cell BK607.out 2).trans rfl; have hfz8_0 := blk_frozen BK607.out 0; have hfz8_1 := blk_frozen BK607.out 1; have hfz8_2 := blk_frozen BK607.out 2; have hcz9_0 : w6.cell? ⟨gb608, 0, none⟩ = some (.int .i64 a2_0) := (blk_cell BK608.out 0).trans rfl; have hcz9_1 : w6.cell? ⟨gb608, 1, none⟩ = some (.int .i64 a2_1) := (blk_cell BK608.out 1).trans rfl; have hcz9_2 : w6.cell? ⟨gb608, 2, none⟩ = some (.int .i64 a2_2) := (blk_cell BK608.out 2).trans rfl; have hfz9_0 := blk_frozen BK608.out 0; have hfz9_1 := blk_frozen BK608.out 1; have hfz9_2 := blk_frozen BK608.out 2))
  go_ret
  exact ⟨by first | rfl | (simp [errW_none, errW_some] <;> rfl) | (simp [*, errW_none, errW_some] <;> rfl), by repeat (first | (with_reducible first | exact HB.out | apply below_alloc | apply pw_below_drewN | apply below_drew1 | refine below_set ?_ GE607.out | refine below_set ?_ GE608.out) | exact HB.out)⟩
 ·rw [if_neg c4] at H
  have c4b0 : decide (a2_0 < a1_0) = false := decide_eq_false c4
  clear c4
  replace H := Option.bind_eq_some_iff.mp H
  obtain ⟨t609, A100, H⟩ := H
  have A10 := Aside0.mk A100
  clear A100
  replace H := Option.bind_eq_some_iff.mp H
  obtain ⟨⟨t610, t611, t612, t613⟩, A110, H⟩ := H
  have A11 := Aside0.mk A110
  clear A110
  by_cases c12 : t613 = true
  ·subst c12
   have H1 : (some (t610 == a1_0 && (t611 == a1_1 && (t612 == a1_2)))) = some r := by rw [if_pos rfl] at H; exact H
   clear H
   have H := H1
   clear H1
   obtain rfl := Option.some.inj H
   go_enter Try.func110, Try.ntmps110
   try go_wp2_with (first | ((with_reducible refine gate_dst (N := 4) rfl ?_); refine bx_ 4 #[.int .i64 a1_0, .int .i64 a1_1, .int .i64 a1_2] 28 ?_; intro gb607 hg w13 hbox hb; have BK607 := Aside0.mk (hbox); have GW607 := bs_ HB hg; have GE607 := bs_ HB hg; replace HB := bt_ HB hb; clear hb hbox hg) | ((with_reducible refine gate_dst (N := 5) rfl ?_); refine bx_ 5 #[.int .i64 a2_0, .int .i64 a2_1, .int .i64 a2_2] 28 ?_; intro gb608 hg w14 hbox hb; have BK608 := Aside0.mk (hbox); have GW608 := bs_ HB hg; have GE608 := bs_ HB hg; have NB607_608 := bm_ BK607 hg; have NB608_607 := bn_ BK607 hg; replace BK607 := bb_ BK607 hb; replace HB := bt_ HB hb; clear hb hbox hg; have hnb15 := NB607_608.out; have hnc15 := NB608_607.out; have hcz16_0 : w14.cell? ⟨gb607, 0, none⟩ = some (.int .i64 a1_0) := (blk_cell BK607.out 0).trans rfl; have hcz16_1 : w14.cell? ⟨gb607, 1, none⟩ = some (.int .i64 a1_1) := (blk_cell BK607.out 1).trans rfl; have hcz16_2 : w14.cell? ⟨gb607, 2, none⟩ = some (.int .i64 a1_2) := (blk_cell BK607.out 2).trans rfl; have hfz16_0 := blk_frozen BK607.out 0; have hfz16_1 := blk_frozen BK607.out 1; have hfz16_2 := blk_frozen BK607.out 2; have hcz17_0 : w14.cell? ⟨gb608, 0, none⟩ = some (.int .i64 a2_0) := (blk_cell BK608.out 0).trans rfl; have hcz17_1 : w14.cell? ⟨gb608, 1, none⟩ = some (.int .i64 a2_1) := (blk_cell BK608.out 1).trans rfl; have hcz17_2 : w14.cell? ⟨gb608, 2, none⟩ = some (.int .i64 a2_2) := (blk_cell BK608.out 2).trans rfl; have hfz17_0 := blk_frozen BK608.out 0; have hfz17_1 := blk_frozen BK608.out 1; have hfz17_2 := blk_frozen BK608.out 2))
   replace BK607 := Aside0.mk (blk_drew BK607.out)
   replace BK608 := Aside0.mk (blk_drew BK608.out)
   replace HB := Aside0.mk (below_drew1 HB.out)
   refine start_ (n := 16) (S := fun w' => w'.cell? ⟨gb608, 0, none⟩ = some (.int .i64 a2_0) ∧ w'.cell? ⟨gb608, 1, none⟩ = some (.int .i64 a2_1) ∧ w'.cell? ⟨gb608, 2, none⟩ = some (.int .i64 a2_2) ∧ w'.cell? ⟨gb607, 0, none⟩ = some (.int .i64 a1_0) ∧ w'.cell? ⟨gb607, 1, none⟩ = some (.int .i64 a1_1) ∧ w'.cell? ⟨gb607, 2, none⟩ = some (.int .i64 a1_2)) (ds := []) #[false, false, false, false, false, false, false, false, false, false, false, false, false, false, false, false] (by kernel_rfl) rfl rfl ⟨(blk_cell BK608.out 0).trans rfl, (blk_cell BK608.out 1).trans rfl, (blk_cell BK608.out 2).trans rfl, (blk_cell BK607.out 0).trans rfl, (blk_cell BK607.out 1).trans rfl, (blk_cell BK607.out 2).trans rfl⟩ (fun hHeld => ?_); refine with_tabW spec_l01Holds.tab3 spec_l01Holds.bits3 (fun HT_ HW_ => ?_)
   generalize w14.drew = w18 at BK607 BK608 HB hHeld ⊢
   refine pu_ HT_ 0 (some 15) #[true, false, false, false, false, false, false, false, false, false, false, false, false, false, false, false] ?_
   refine pu_ HT_ 1 (some 16) #[true, true, false, false, false, false, false, false, false, false, false, false, false, false, false, false] ?_
   refine pu_ HT_ 3 (some 18) #[true, true, false, true, false, false, false, false, false, false, false, false, false, false, false, false] ?_
   refine pu_ HT_ 4 (some 19) #[true, true, false, true, true, false, false, false, false, false, false, false, false, false, false, false] ?_
   refine pu_ HT_ 7 (some 22) #[true, true, false, true, true, false, false, true, false, false, false, false, false, false, false, false] ?_
   refine ta_ HT_ HW_ 2 (some 17) #[true, true, true, true, true, false, false, true, false, false, false, false, false, false, false, false] hHeld ?_ (hy := by rintro w' ⟨s0, s1, s2, s3, s4, s5⟩; go_simp; with_reducible rfl)
   refine ta_ HT_ HW_ 5 (some 20) #[true, true, true, true, true, true, false, true, false, false, false, false, false, false, false, false] hHeld ?_ (hy := by rintro w' ⟨s0, s1, s2, s3, s4, s5⟩; go_simp; with_reducible rfl)
   refine ta_ HT_ HW_ 8 (some 23) #[true, true, true, true, true, true, false, true, true, false, false, false, false, false, false, false] hHeld ?_ (hy := by rintro w' ⟨s0, s1, s2, s3, s4, s5⟩; go_simp; with_reducible rfl)
   refine join_ (σ := Nat) 2 #[true, true, true, true, true, true, true, true, true, true, true, true, true, true, false, false] (fun s_ => [(21, .int .i64 t609), (24, .tuple #[.agg #[.int .i64 t610, .int .i64 t611, .int .i64 t612], .bool true]), (7, .pointer (some ⟨s_, 0, none⟩)), (14, .tuple #[.agg #[.int .i64 t610, .int .i64 t611, .int .i64 t612], .bool true]), (25, .agg #[.int .i64 t610, .int .i64 t611, .int .i64 t612]), (26, .bool true)]) (fun s_ w' => (w'.cell? ⟨gb608, 0, none⟩ = some (.int .i64 a2_0) ∧ w'.cell? ⟨gb608, 1, none⟩ = some (.int .i64 a2_1) ∧ w'.cell? ⟨gb608, 2, none⟩ = some (.int .i64 a2_2) ∧ w'.cell? ⟨gb607, 0, none⟩ = some (.int .i64 a1_0) ∧ w'.cell? ⟨gb607, 1, none⟩ = some (.int .i64 a1_1) ∧ w'.cell? ⟨gb607, 2, none⟩ = some (.int .i64 a1_2)) ∧ (w'.heap[gb607]? = some (.cells #[.int .i64 a1_0, .int .i64 a1_1, .int .i64 a1_2] 28 (0, 0))) ∧ (w'.heap[gb608]? = some (.cells #[.int .i64 a2_0, .int .i64 a2_1, .int .i64 a2_2] 28 (0, 0))) ∧ (w'.heap[s_]? = some (.cells #[.int .i64 0, .int .i64 0, .int .i64 0] 28 (0, 0))) ∧ (w.heap.size ≤ s_) ∧ (w.heap.size ≤ s_) ∧ (gb607 ≠ s_) ∧ (s_ ≠ gb607) ∧ (gb608 ≠ s_) ∧ (s_ ≠ gb608) ∧ (Below w.heap.size w w')) ?_ ?_
   rotate_left
   ·intro hCont
    refine two_ (i := 6) (j := 13) (Ni := some 21) (Nj := some 7) #[true, true, true, true, true, true, true, true, true, false, false, false, false, false, false, false] #[true, true, true, true, true, true, false, true, true, false, false, false, false, true, false, false] rfl rfl rfl rfl (two_of HT_.out (by kernel_rfl)) (by decide) (by decide) (fun K hK => ?_) (fun K hK => ?_)
    ·skip
     refine goes_ Try.func72 (by kernel_rfl) rfl #[.int .i64 a0, .int .i64 a2_2] (by rfl) rfl rfl (by (try simp only [List.map_toArray, List.map_cons, List.map_nil]); first | done | rfl | (simp only [List.length_drop, List.length_take]; rfl)) ?_
     with_reducible refine (spec_l01Power.calls k a0 a2_2 t609 _ A10.out).mono ?_
     rintro e w' ⟨rfl, ⟨nd, rfl⟩⟩
     refine ⟨_, rfl, ?_⟩
     refine hK.out _ _ ⟨(blk_cell BK608.out 0).trans rfl, (blk_cell BK608.out 1).trans rfl, (blk_cell BK608.out 2).trans rfl, (blk_cell BK607.out 0).trans rfl, (blk_cell BK607.out 1).trans rfl, (blk_cell BK607.out 2).trans rfl⟩ (fun hHeld => ?_)
     clear hK K
     refine norm_ (a' := ?_) ?_ ?_
     rotate_left
     ·show Act.put _ (some 21) _ = _
      simp only [Act.put, lstS, lstZ, lstC, i64_w, i32_w]
      rfl
     refine two_ (i := 9) (j := 13) (Ni := some 24) (Nj := some 7) #[true, true, true, true, true, true, true, true, true, true, false, false, false, false, false, false] #[true, true, true, true, true, true, true, true, true, false, false, false, false, true, false, false] rfl rfl rfl rfl (two_of HT_.out (by kernel_rfl)) (by decide) (by decide) (fun K hK => ?_) (fun K hK => ?_)
     ·skip
      refine goes_ Try.func74 (by kernel_rfl) rfl #[.int .i64 a0, .int .i64 a2_1, .int .i64 t609, .int .i64 a1_0] (by rfl) rfl rfl (by (try simp only [List.map_toArray, List.map_cons, List.map_nil]); first | done | rfl | (simp only [List.length_drop, List.length_take]; rfl)) ?_
      with_reducible refine (spec_l01Of.calls k a0 a2_1 t609 a1_0 t610 t611 t612 true _ A11.out).mono ?_
      rintro e w19 ⟨rfl, hb⟩
      refine ⟨_, rfl, ?_⟩
      replace BK607 := bb_ BK607 hb
      replace BK608 := bb_ BK608 hb
      replace HB := bt_ HB hb
      (try clear hb)
      (try clear hb2)
      (try clear hk)
      (try clear hi)
      refine hK.out _ _ ⟨(blk_cell BK608.out 0).trans rfl, (blk_cell BK608.out 1).trans rfl, (blk_cell BK608.out 2).trans rfl, (blk_cell BK607.out 0).trans rfl, (blk_cell BK607.out 1).trans rfl, (blk_cell BK607.out 2).trans rfl⟩ (fun hHeld => ?_)
      clear hK K
      refine norm_ (a' := ?_) ?_ ?_
      rotate_left
      ·show Act.put _ (some 24) _ = _
       simp only [Act.put, lstS, lstZ, lstC, i64_w, i32_w]
       rfl
      refine pu_ HT_ 10 (some 14) #[true, true, true, true, true, true, true, true, true, true, true, false, false, false, false, false] ?_
      refine pu_ HT_ 11 (some 25) #[true, true, true, true, true, true, true, true, true, true, true, true, false, false, false, false] ?_
      refine pu_ HT_ 12 (some 26) #[true, true, true, true, true, true, true, true, true, true, true, true, true, false, false, false] ?_
      refine one_ (i := 13) (N := some 7) #[true, true, true, true, true, true, true, true, true, true, true, true, true, true, false, false] rfl rfl (one_of HT_.out (by kernel_rfl)) (by decide) (fun K hK => ?_)
      refine box_step ?hg (N := 7) ?hd (cs := #[.int .i64 0, .int .i64 0, .int .i64 0]) (t := 28) ?hr ?_; (case hd => rfl); (case hg => rfl); (case hr => first | (go_simp; done) | (go_simp; rfl))
      intro gb614 hg w20 hbox hb
      have BK614 := Aside0.mk (hbox)
      have GW614 := bs_ HB hg
      have GE614 := bs_ HB hg
      have NB607_614 := bm_ BK607 hg
      have NB614_607 := bn_ BK607 hg
      have NB608_614 := bm_ BK608 hg
      have NB614_608 := bn_ BK608 hg
      replace BK607 := bb_ BK607 hb
      replace BK608 := bb_ BK608 hb
      replace HB := bt_ HB hb
      clear hb hbox hg
      refine hK.out _ _ ⟨(blk_cell BK608.out 0).trans rfl, (blk_cell BK608.out 1).trans rfl, (blk_cell BK608.out 2).trans rfl, (blk_cell BK607.out 0).trans rfl, (blk_cell BK607.out 1).trans rfl, (blk_cell BK607.out 2).trans rfl⟩ (fun hHeld => ?_)
      clear hK K
      refine norm_ (a' := ?_) ?_ ?_
      rotate_left
      ·show Act.put _ (some 7) _ = _
       simp only [Act.put, lstS, lstZ, lstC, i64_w, i32_w]
       rfl
      exact norm_ (by simp only [putAll, Act.put, lstS, lstZ, lstC]) (hCont (gb614) _ ⟨hHeld, (bl_ BK607).out, (bl_ BK608).out, (bl_ BK614).out, GW614.out, GE614.out, NB607_614.out, NB614_607.out, NB608_614.out, NB614_608.out, (bw_ HB).out⟩)
     ·skip
      refine box_step ?hg (N := 7) ?hd (cs := #[.int .i64 0, .int .i64 0, .int .i64 0]) (t := 28) ?hr ?_; (case hd => rfl); (case hg => rfl); (case hr => first | (go_simp; done) | (go_simp; rfl))
      intro gb614 hg w19 hbox hb
      have BK614 := Aside0.mk (hbox)
      have GW614 := bs_ HB hg
      have GE614 := bs_ HB hg
      have NB607_614 := bm_ BK607 hg
      have NB614_607 := bn_ BK607 hg
      have NB608_614 := bm_ BK608 hg
      have NB614_608 := bn_ BK608 hg
      replace BK607 := bb_ BK607 hb
      replace BK608 := bb_ BK608 hb
      replace HB := bt_ HB hb
      clear hb hbox hg
      refine hK.out _ _ ⟨(blk_cell BK608.out 0).trans rfl, (blk_cell BK608.out 1).trans rfl, (blk_cell BK608.out 2).trans rfl, (blk_cell BK607.out 0).trans rfl, (blk_cell BK607.out 1).trans rfl, (blk_cell BK607.out 2).trans rfl⟩ (fun hHeld => ?_)
      clear hK K
      refine norm_ (a' := ?_) ?_ ?_
      rotate_left
      ·show Act.put _ (some 7) _ = _
       simp only [Act.put, lstS, lstZ, lstC, i64_w, i32_w]
       rfl
      refine one_ (i := 9) (N := some 24) #[true, true, true, true, true, true, true, true, true, true, false, false, false, true, false, false] rfl rfl (one_of HT_.out (by kernel_rfl)) (by decide) (fun K hK => ?_)
      refine goes_ Try.func74 (by kernel_rfl) rfl #[.int .i64 a0, .int .i64 a2_1, .int .i64 t609, .int .i64 a1_0] (by rfl) rfl rfl (by (try simp only [List.map_toArray, List.map_cons, List.map_nil]); first | done | rfl | (simp only [List.length_drop, List.length_take]; rfl)) ?_
      with_reducible refine (spec_l01Of.calls k a0 a2_1 t609 a1_0 t610 t611 t612 true _ A11.out).mono ?_
      rintro e w20 ⟨rfl, hb⟩
      refine ⟨_, rfl, ?_⟩
      replace BK607 := bb_ BK607 hb
      replace BK608 := bb_ BK608 hb
      replace BK614 := bb_ BK614 hb
      replace HB := bt_ HB hb
      (try clear hb)
      (try clear hb2)
      (try clear hk)
      (try clear hi)
      refine hK.out _ _ ⟨(blk_cell BK608.out 0).trans rfl, (blk_cell BK608.out 1).trans rfl, (blk_cell BK608.out 2).trans rfl, (blk_cell BK607.out 0).trans rfl, (blk_cell BK607.out 1).trans rfl, (blk_cell BK607.out 2).trans rfl⟩ (fun hHeld => ?_)
      clear hK K
      refine norm_ (a' := ?_) ?_ ?_
      rotate_left
      ·show Act.put _ (some 24) _ = _
       simp only [Act.put, lstS, lstZ, lstC, i64_w, i32_w]
       rfl
      refine pu_ HT_ 10 (some 14) #[true, true, true, true, true, true, true, true, true, true, true, false, false, true, false, false] ?_
      refine pu_ HT_ 11 (some 25) #[true, true, true, true, true, true, true, true, true, true, true, true, false, true, false, false] ?_
      refine pu_ HT_ 12 (some 26) #[true, true, true, true, true, true, true, true, true, true, true, true, true, true, false, false] ?_
      exact norm_ (by simp only [putAll, Act.put, lstS, lstZ, lstC]) (hCont (gb614) _ ⟨hHeld, (bl_ BK607).out, (bl_ BK608).out, (bl_ BK614).out, GW614.out, GE614.out, NB607_614.out, NB614_607.out, NB608_614.out, NB614_608.out, (bw_ HB).out⟩)
    ·skip
     refine box_step ?hg (N := 7) ?hd (cs := #[.int .i64 0, .int .i64 0, .int .i64 0]) (t := 28) ?hr ?_; (case hd => rfl); (case hg => rfl); (case hr => first | (go_simp; done) | (go_simp; rfl))
     intro gb614 hg w19 hbox hb
     have BK614 := Aside0.mk (hbox)
     have GW614 := bs_ HB hg
     have GE614 := bs_ HB hg
     have NB607_614 := bm_ BK607 hg
     have NB614_607 := bn_ BK607 hg
     have NB608_614 := bm_ BK608 hg
     have NB614_608 := bn_ BK608 hg
     replace BK607 := bb_ BK607 hb
     replace BK608 := bb_ BK608 hb
     replace HB := bt_ HB hb
     clear hb hbox hg
     refine hK.out _ _ ⟨(blk_cell BK608.out 0).trans rfl, (blk_cell BK608.out 1).trans rfl, (blk_cell BK608.out 2).trans rfl, (blk_cell BK607.out 0).trans rfl, (blk_cell BK607.out 1).trans rfl, (blk_cell BK607.out 2).trans rfl⟩ (fun hHeld => ?_)
     clear hK K
     refine norm_ (a' := ?_) ?_ ?_
     rotate_left
     ·show Act.put _ (some 7) _ = _
      simp only [Act.put, lstS, lstZ, lstC, i64_w, i32_w]
      rfl
     refine one_ (i := 6) (N := some 21) #[true, true, true, true, true, true, true, true, true, false, false, false, false, true, false, false] rfl rfl (one_of HT_.out (by kernel_rfl)) (by decide) (fun K hK => ?_)
     refine goes_ Try.func72 (by kernel_rfl) rfl #[.int .i64 a0, .int .i64 a2_2] (by rfl) rfl rfl (by (try simp only [List.map_toArray, List.map_cons, List.map_nil]); first | done | rfl | (simp only [List.length_drop, List.length_take]; rfl)) ?_
     with_reducible refine (spec_l01Power.calls k a0 a2_2 t609 _ A10.out).mono ?_
     rintro e w' ⟨rfl, ⟨nd, rfl⟩⟩
     refine ⟨_, rfl, ?_⟩
     refine hK.out _ _ ⟨(blk_cell BK608.out 0).trans rfl, (blk_cell BK608.out 1).trans rfl, (blk_cell BK608.out 2).trans rfl, (blk_cell BK607.out 0).trans rfl, (blk_cell BK607.out 1).trans rfl, (blk_cell BK607.out 2).trans rfl⟩ (fun hHeld => ?_)
     clear hK K
     refine norm_ (a' := ?_) ?_ ?_
     rotate_left
     ·show Act.put _ (some 21) _ = _
      simp only [Act.put, lstS, lstZ, lstC, i64_w, i32_w]
      rfl
     refine one_ (i := 9) (N := some 24) #[true, true, true, true, true, true, true, true, true, true, false, false, false, true, false, false] rfl rfl (one_of HT_.out (by kernel_rfl)) (by decide) (fun K hK => ?_)
     refine goes_ Try.func74 (by kernel_rfl) rfl #[.int .i64 a0, .int .i64 a2_1, .int .i64 t609, .int .i64 a1_0] (by rfl) rfl rfl (by (try simp only [List.map_toArray, List.map_cons, List.map_nil]); first | done | rfl | (simp only [List.length_drop, List.length_take]; rfl)) ?_
     with_reducible refine (spec_l01Of.calls k a0 a2_1 t609 a1_0 t610 t611 t612 true _ A11.out).mono ?_
     rintro e w20 ⟨rfl, hb⟩
     refine ⟨_, rfl, ?_⟩
     replace BK607 := bb_ BK607 hb
     replace BK608 := bb_ BK608 hb
     replace BK614 := bb_ BK614 hb
     replace HB := bt_ HB hb
     (try clear hb)
     (try clear hb2)
     (try clear hk)
     (try clear hi)
     refine hK.out _ _ ⟨(blk_cell BK608.out 0).trans rfl, (blk_cell BK608.out 1).trans rfl, (blk_cell BK608.out 2).trans rfl, (blk_cell BK607.out 0).trans rfl, (blk_cell BK607.out 1).trans rfl, (blk_cell BK607.out 2).trans rfl⟩ (fun hHeld => ?_)
     clear hK K
     refine norm_ (a' := ?_) ?_ ?_
     rotate_left
     ·show Act.put _ (some 24) _ = _
      simp only [Act.put, lstS, lstZ, lstC, i64_w, i32_w]
      rfl
     refine pu_ HT_ 10 (some 14) #[true, true, true, true, true, true, true, true, true, true, true, false, false, true, false, false] ?_
     refine pu_ HT_ 11 (some 25) #[true, true, true, true, true, true, true, true, true, true, true, true, false, true, false, false] ?_
     refine pu_ HT_ 12 (some 26) #[true, true, true, true, true, true, true, true, true, true, true, true, true, true, false, false] ?_
     exact norm_ (by simp only [putAll, Act.put, lstS, lstZ, lstC]) (hCont (gb614) _ ⟨hHeld, (bl_ BK607).out, (bl_ BK608).out, (bl_ BK614).out, GW614.out, GE614.out, NB607_614.out, NB614_607.out, NB608_614.out, NB614_608.out, (bw_ HB).out⟩)
   rintro gb614 w21 ⟨hS_, h0_, h1_, h2_, h3_, h4_, h5_, h6_, h7_, h8_, h9_⟩
   have n0_ : Aside0 (w21.heap[gb607]? = some (.cells #[.int .i64 a1_0, .int .i64 a1_1, .int .i64 a1_2] 28 (0, 0))) := ⟨h0_⟩
   have n1_ : Aside0 (w21.heap[gb608]? = some (.cells #[.int .i64 a2_0, .int .i64 a2_1, .int .i64 a2_2] 28 (0, 0))) := ⟨h1_⟩
   have n2_ : Aside0 (w21.heap[gb614]? = some (.cells #[.int .i64 0, .int .i64 0, .int .i64 0] 28 (0, 0))) := ⟨h2_⟩
   have n3_ : Aside0 (w.heap.size ≤ gb614) := ⟨h3_⟩
   have n4_ : Aside0 (w.heap.size ≤ gb614) := ⟨h4_⟩
   have n5_ : Aside0 (gb607 ≠ gb614) := ⟨h5_⟩
   have n6_ : Aside0 (gb614 ≠ gb607) := ⟨h6_⟩
   have n7_ : Aside0 (gb608 ≠ gb614) := ⟨h7_⟩
   have n8_ : Aside0 (gb614 ≠ gb608) := ⟨h8_⟩
   have n9_ : Aside0 (Below w.heap.size w w21) := ⟨h9_⟩
   clear BK607
   clear BK608
   clear HB
   clear h0_ h1_ h2_ h3_ h4_ h5_ h6_ h7_ h8_ h9_
   have BK607 := n0_
   have BK608 := n1_
   have BK614 := n2_
   have GW614 := n3_
   have GE614 := n4_
   have NB607_614 := n5_
   have NB614_607 := n6_
   have NB608_614 := n7_
   have NB614_608 := n8_
   have HB := n9_
   clear n0_ n1_ n2_ n3_ n4_ n5_ n6_ n7_ n8_ n9_
   have hHeld : w21.cell? ⟨gb608, 0, none⟩ = some (.int .i64 a2_0) ∧ w21.cell? ⟨gb608, 1, none⟩ = some (.int .i64 a2_1) ∧ w21.cell? ⟨gb608, 2, none⟩ = some (.int .i64 a2_2) ∧ w21.cell? ⟨gb607, 0, none⟩ = some (.int .i64 a1_0) ∧ w21.cell? ⟨gb607, 1, none⟩ = some (.int .i64 a1_1) ∧ w21.cell? ⟨gb607, 2, none⟩ = some (.int .i64 a1_2) := hS_
   refine norm_ (a' := ?_) ?_ ?_
   rotate_left
   ·simp only [putAll, Act.put, lstS, lstZ, lstC]
    rfl
   refine one_ (i := 14) (N := none) #[true, true, true, true, true, true, true, true, true, true, true, true, true, true, true, false] rfl rfl (one_of HT_.out (by kernel_rfl)) (by decide) (fun K hK => ?_)
   have hs22 : w21.cell? ⟨gb614, 0, none⟩ = some (.int .i64 0) := (blk_cell BK614.out 0).trans rfl
   have hfs22 := blk_frozen BK614.out 0
   have hns22_0 := NB607_614.out
   have hns22_1 := NB608_614.out
   have hms22_0 := NB614_607.out
   have hms22_1 := NB614_608.out
   have hs23 : w21.cell? ⟨gb614, 1, none⟩ = some (.int .i64 0) := (blk_cell BK614.out 1).trans rfl
   have hfs23 := blk_frozen BK614.out 1
   have hns23_0 := NB607_614.out
   have hns23_1 := NB608_614.out
   have hms23_0 := NB614_607.out
   have hms23_1 := NB614_608.out
   have hs24 : w21.cell? ⟨gb614, 2, none⟩ = some (.int .i64 0) := (blk_cell BK614.out 2).trans rfl
   have hfs24 := blk_frozen BK614.out 2
   have hns24_0 := NB607_614.out
   have hns24_1 := NB608_614.out
   have hms24_0 := NB614_607.out
   have hms24_1 := NB614_608.out
   refine skip_ (w1 := ?_) (by rfl) rfl ?_ ?_
   rotate_left
   ·go_simp
    rfl
   refine hK.out _ _ ⟨((cell_far (p := ⟨gb614, _, none⟩) NB608_614.out _).trans (((cell_far (p := ⟨gb614, _, none⟩) NB608_614.out _).trans (((cell_far (p := ⟨gb614, _, none⟩) NB608_614.out _).trans (hHeld.1)))))), ((cell_far (p := ⟨gb614, _, none⟩) NB608_614.out _).trans (((cell_far (p := ⟨gb614, _, none⟩) NB608_614.out _).trans (((cell_far (p := ⟨gb614, _, none⟩) NB608_614.out _).trans (hHeld.2.1)))))), ((cell_far (p := ⟨gb614, _, none⟩) NB608_614.out _).trans (((cell_far (p := ⟨gb614, _, none⟩) NB608_614.out _).trans (((cell_far (p := ⟨gb614, _, none⟩) NB608_614.out _).trans (hHeld.2.2.1)))))), ((cell_far (p := ⟨gb614, _, none⟩) NB607_614.out _).trans (((cell_far (p := ⟨gb614, _, none⟩) NB607_614.out _).trans (((cell_far (p := ⟨gb614, _, none⟩) NB607_614.out _).trans (hHeld.2.2.2.1)))))), ((cell_far (p := ⟨gb614, _, none⟩) NB607_614.out _).trans (((cell_far (p := ⟨gb614, _, none⟩) NB607_614.out _).trans (((cell_far (p := ⟨gb614, _, none⟩) NB607_614.out _).trans (hHeld.2.2.2.2.1)))))), ((cell_far (p := ⟨gb614, _, none⟩) NB607_614.out _).trans (((cell_far (p := ⟨gb614, _, none⟩) NB607_614.out _).trans (((cell_far (p := ⟨gb614, _, none⟩) NB607_614.out _).trans (hHeld.2.2.2.2.2))))))⟩ (fun hHeld => ?_)
   clear hK K
   refine pu_ HT_ 15 (some 8) #[true, true, true, true, true, true, true, true, true, true, true, true, true, true, true, true] ?_
   refine done_ (done_of HT_.out (by kernel_rfl)) ?_
   have hnb25 := NB614_607.out
   have hnc25 := NB607_614.out
   have hnb26 := NB614_608.out
   have hnc26 := NB608_614.out
   have hcz27_0 : w21.cell? ⟨gb614, 0, none⟩ = some (.int .i64 0) := (blk_cell BK614.out 0).trans rfl
   have hcz27_1 : w21.cell? ⟨gb614, 1, none⟩ = some (.int .i64 0) := (blk_cell BK614.out 1).trans rfl
   have hcz27_2 : w21.cell? ⟨gb614, 2, none⟩ = some (.int .i64 0) := (blk_cell BK614.out 2).trans rfl
   have hfz27_0 := blk_frozen BK614.out 0
   have hfz27_1 := blk_frozen BK614.out 1
   have hfz27_2 := blk_frozen BK614.out 2
   have hcz28_0 : w21.cell? ⟨gb607, 0, none⟩ = some (.int .i64 a1_0) := (blk_cell BK607.out 0).trans rfl
   have hcz28_1 : w21.cell? ⟨gb607, 1, none⟩ = some (.int .i64 a1_1) := (blk_cell BK607.out 1).trans rfl
   have hcz28_2 : w21.cell? ⟨gb607, 2, none⟩ = some (.int .i64 a1_2) := (blk_cell BK607.out 2).trans rfl
   have hfz28_0 := blk_frozen BK607.out 0
   have hfz28_1 := blk_frozen BK607.out 1
   have hfz28_2 := blk_frozen BK607.out 2
   try go_wp2
   go_ret
   exact ⟨by first | rfl | (simp [errW_none, errW_some] <;> rfl) | (simp [*, errW_none, errW_some] <;> rfl), by repeat (first | (with_reducible first | exact HB.out | apply below_alloc | apply pw_below_drewN | apply below_drew1 | refine below_set ?_ GE607.out | refine below_set ?_ GE608.out | refine below_set ?_ GE614.out) | exact HB.out)⟩
  ·replace c12 := Bool.eq_false_iff.mpr c12
   subst c12
   have H1 : (some false) = some r := by rw [if_neg (show ¬ (false = true) by decide)] at H; exact H
   clear H
   have H := H1
   clear H1
   obtain rfl := Option.some.inj H
   go_enter Try.func110, Try.ntmps110
   try go_wp2_with (first | ((with_reducible refine gate_dst (N := 4) rfl ?_); refine bx_ 4 #[.int .i64 a1_0, .int .i64 a1_1, .int .i64 a1_2] 28 ?_; intro gb607 hg w29 hbox hb; have BK607 := Aside0.mk (hbox); have GW607 := bs_ HB hg; have GE607 := bs_ HB hg; replace HB := bt_ HB hb; clear hb hbox hg) | ((with_reducible refine gate_dst (N := 5) rfl ?_); refine bx_ 5 #[.int .i64 a2_0, .int .i64 a2_1, .int .i64 a2_2] 28 ?_; intro gb608 hg w30 hbox hb; have BK608 := Aside0.mk (hbox); have GW608 := bs_ HB hg; have GE608 := bs_ HB hg; have NB607_608 := bm_ BK607 hg; have NB608_607 := bn_ BK607 hg; replace BK607 := bb_ BK607 hb; replace HB := bt_ HB hb; clear hb hbox hg; have hnb31 := NB607_608.out; have hnc31 := NB608_607.out; have hcz32_0 : w30.cell? ⟨gb607, 0, none⟩ = some (.int .i64 a1_0) := (blk_cell BK607.out 0).trans rfl; have hcz32_1 : w30.cell? ⟨gb607, 1, none⟩ = some (.int .i64 a1_1) := (blk_cell BK607.out 1).trans rfl; have hcz32_2 : w30.cell? ⟨gb607, 2, none⟩ = some (.int .i64 a1_2) := (blk_cell BK607.out 2).trans rfl; have hfz32_0 := blk_frozen BK607.out 0; have hfz32_1 := blk_frozen BK607.out 1; have hfz32_2 := blk_frozen BK607.out 2; have hcz33_0 : w30.cell? ⟨gb608, 0, none⟩ = some (.int .i64 a2_0) := (blk_cell BK608.out 0).trans rfl; have hcz33_1 : w30.cell? ⟨gb608, 1, none⟩ = some (.int .i64 a2_1) := (blk_cell BK608.out 1).trans rfl; have hcz33_2 : w30.cell? ⟨gb608, 2, none⟩ = some (.int .i64 a2_2) := (blk_cell BK608.out 2).trans rfl; have hfz33_0 := blk_frozen BK608.out 0; have hfz33_1 := blk_frozen BK608.out 1; have hfz33_2 := blk_frozen BK608.out 2))
   replace BK607 := Aside0.mk (blk_drew BK607.out)
   replace BK608 := Aside0.mk (blk_drew BK608.out)
   replace HB := Aside0.mk (below_drew1 HB.out)
   refine start_ (n := 16) (S := fun w' => w'.cell? ⟨gb608, 0, none⟩ = some (.int .i64 a2_0) ∧ w'.cell? ⟨gb608, 1, none⟩ = some (.int .i64 a2_1) ∧ w'.cell? ⟨gb608, 2, none⟩ = some (.int .i64 a2_2) ∧ w'.cell? ⟨gb607, 0, none⟩ = some (.int .i64 a1_0) ∧ w'.cell? ⟨gb607, 1, none⟩ = some (.int .i64 a1_1) ∧ w'.cell? ⟨gb607, 2, none⟩ = some (.int .i64 a1_2)) (ds := []) #[false, false, false, false, false, false, false, false, false, false, false, false, false, false, false, false] (by kernel_rfl) rfl rfl ⟨(blk_cell BK608.out 0).trans rfl, (blk_cell BK608.out 1).trans rfl, (blk_cell BK608.out 2).trans rfl, (blk_cell BK607.out 0).trans rfl, (blk_cell BK607.out 1).trans rfl, (blk_cell BK607.out 2).trans rfl⟩ (fun hHeld => ?_); refine with_tabW spec_l01Holds.tab3 spec_l01Holds.bits3 (fun HT_ HW_ => ?_)
   generalize w30.drew = w34 at BK607 BK608 HB hHeld ⊢
   refine pu_ HT_ 0 (some 15) #[true, false, false, false, false, false, false, false, false, false, false, false, false, false, false, false] ?_
   refine pu_ HT_ 1 (some 16) #[true, true, false, false, false, false, false, false, false, false, false, false, false, false, false, false] ?_
   refine pu_ HT_ 3 (some 18) #[true, true, false, true, false, false, false, false, false, false, false, false, false, false, false, false] ?_
   refine pu_ HT_ 4 (some 19) #[true, true, false, true, true, false, false, false, false, false, false, false, false, false, false, false] ?_
   refine pu_ HT_ 7 (some 22) #[true, true, false, true, true, false, false, true, false, false, false, false, false, false, false, false] ?_
   refine ta_ HT_ HW_ 2 (some 17) #[true, true, true, true, true, false, false, true, false, false, false, false, false, false, false, false] hHeld ?_ (hy := by rintro w' ⟨s0, s1, s2, s3, s4, s5⟩; go_simp; with_reducible rfl)
   refine ta_ HT_ HW_ 5 (some 20) #[true, true, true, true, true, true, false, true, false, false, false, false, false, false, false, false] hHeld ?_ (hy := by rintro w' ⟨s0, s1, s2, s3, s4, s5⟩; go_simp; with_reducible rfl)
   refine ta_ HT_ HW_ 8 (some 23) #[true, true, true, true, true, true, false, true, true, false, false, false, false, false, false, false] hHeld ?_ (hy := by rintro w' ⟨s0, s1, s2, s3, s4, s5⟩; go_simp; with_reducible rfl)
   refine join_ (σ := Nat) 2 #[true, true, true, true, true, true, true, true, true, true, true, true, true, true, false, false] (fun s_ => [(21, .int .i64 t609), (24, .tuple #[.agg #[.int .i64 t610, .int .i64 t611, .int .i64 t612], .bool false]), (7, .pointer (some ⟨s_, 0, none⟩)), (14, .tuple #[.agg #[.int .i64 t610, .int .i64 t611, .int .i64 t612], .bool false]), (25, .agg #[.int .i64 t610, .int .i64 t611, .int .i64 t612]), (26, .bool false)]) (fun s_ w' => (w'.cell? ⟨gb608, 0, none⟩ = some (.int .i64 a2_0) ∧ w'.cell? ⟨gb608, 1, none⟩ = some (.int .i64 a2_1) ∧ w'.cell? ⟨gb608, 2, none⟩ = some (.int .i64 a2_2) ∧ w'.cell? ⟨gb607, 0, none⟩ = some (.int .i64 a1_0) ∧ w'.cell? ⟨gb607, 1, none⟩ = some (.int .i64 a1_1) ∧ w'.cell? ⟨gb607, 2, none⟩ = some (.int .i64 a1_2)) ∧ (w'.heap[gb607]? = some (.cells #[.int .i64 a1_0, .int .i64 a1_1, .int .i64 a1_2] 28 (0, 0))) ∧ (w'.heap[gb608]? = some (.cells #[.int .i64 a2_0, .int .i64 a2_1, .int .i64 a2_2] 28 (0, 0))) ∧ (w'.heap[s_]? = some (.cells #[.int .i64 0, .int .i64 0, .int .i64 0] 28 (0, 0))) ∧ (w.heap.size ≤ s_) ∧ (w.heap.size ≤ s_) ∧ (gb607 ≠ s_) ∧ (s_ ≠ gb607) ∧ (gb608 ≠ s_) ∧ (s_ ≠ gb608) ∧ (Below w.heap.size w w')) ?_ ?_
   rotate_left
   ·intro hCont
    refine two_ (i := 6) (j := 13) (Ni := some 21) (Nj := some 7) #[true, true, true, true, true, true, true, true, true, false, false, false, false, false, false, false] #[true, true, true, true, true, true, false, true, true, false, false, false, false, true, false, false] rfl rfl rfl rfl (two_of HT_.out (by kernel_rfl)) (by decide) (by decide) (fun K hK => ?_) (fun K hK => ?_)
    ·skip
     refine goes_ Try.func72 (by kernel_rfl) rfl #[.int .i64 a0, .int .i64 a2_2] (by rfl) rfl rfl (by (try simp only [List.map_toArray, List.map_cons, List.map_nil]); first | done | rfl | (simp only [List.length_drop, List.length_take]; rfl)) ?_
     with_reducible refine (spec_l01Power.calls k a0 a2_2 t609 _ A10.out).mono ?_
     rintro e w' ⟨rfl, ⟨nd, rfl⟩⟩
     refine ⟨_, rfl, ?_⟩
     refine hK.out _ _ ⟨(blk_cell BK608.out 0).trans rfl, (blk_cell BK608.out 1).trans rfl, (blk_cell BK608.out 2).trans rfl, (blk_cell BK607.out 0).trans rfl, (blk_cell BK607.out 1).trans rfl, (blk_cell BK607.out 2).trans rfl⟩ (fun hHeld => ?_)
     clear hK K
     refine norm_ (a' := ?_) ?_ ?_
     rotate_left
     ·show Act.put _ (some 21) _ = _
      simp only [Act.put, lstS, lstZ, lstC, i64_w, i32_w]
      rfl
     refine two_ (i := 9) (j := 13) (Ni := some 24) (Nj := some 7) #[true, true, true, true, true, true, true, true, true, true, false, false, false, false, false, false] #[true, true, true, true, true, true, true, true, true, false, false, false, false, true, false, false] rfl rfl rfl rfl (two_of HT_.out (by kernel_rfl)) (by decide) (by decide) (fun K hK => ?_) (fun K hK => ?_)
     ·skip
      refine goes_ Try.func74 (by kernel_rfl) rfl #[.int .i64 a0, .int .i64 a2_1, .int .i64 t609, .int .i64 a1_0] (by rfl) rfl rfl (by (try simp only [List.map_toArray, List.map_cons, List.map_nil]); first | done | rfl | (simp only [List.length_drop, List.length_take]; rfl)) ?_
      with_reducible refine (spec_l01Of.calls k a0 a2_1 t609 a1_0 t610 t611 t612 false _ A11.out).mono ?_
      rintro e w35 ⟨rfl, hb⟩
      refine ⟨_, rfl, ?_⟩
      replace BK607 := bb_ BK607 hb
      replace BK608 := bb_ BK608 hb
      replace HB := bt_ HB hb
      (try clear hb)
      (try clear hb2)
      (try clear hk)
      (try clear hi)
      refine hK.out _ _ ⟨(blk_cell BK608.out 0).trans rfl, (blk_cell BK608.out 1).trans rfl, (blk_cell BK608.out 2).trans rfl, (blk_cell BK607.out 0).trans rfl, (blk_cell BK607.out 1).trans rfl, (blk_cell BK607.out 2).trans rfl⟩ (fun hHeld => ?_)
      clear hK K
      refine norm_ (a' := ?_) ?_ ?_
      rotate_left
      ·show Act.put _ (some 24) _ = _
       simp only [Act.put, lstS, lstZ, lstC, i64_w, i32_w]
       rfl
      refine pu_ HT_ 10 (some 14) #[true, true, true, true, true, true, true, true, true, true, true, false, false, false, false, false] ?_
      refine pu_ HT_ 11 (some 25) #[true, true, true, true, true, true, true, true, true, true, true, true, false, false, false, false] ?_
      refine pu_ HT_ 12 (some 26) #[true, true, true, true, true, true, true, true, true, true, true, true, true, false, false, false] ?_
      refine one_ (i := 13) (N := some 7) #[true, true, true, true, true, true, true, true, true, true, true, true, true, true, false, false] rfl rfl (one_of HT_.out (by kernel_rfl)) (by decide) (fun K hK => ?_)
      refine box_step ?hg (N := 7) ?hd (cs := #[.int .i64 0, .int .i64 0, .int .i64 0]) (t := 28) ?hr ?_; (case hd => rfl); (case hg => rfl); (case hr => first | (go_simp; done) | (go_simp; rfl))
      intro gb614 hg w36 hbox hb
      have BK614 := Aside0.mk (hbox)
      have GW614 := bs_ HB hg
      have GE614 := bs_ HB hg
      have NB607_614 := bm_ BK607 hg
      have NB614_607 := bn_ BK607 hg
      have NB608_614 := bm_ BK608 hg
      have NB614_608 := bn_ BK608 hg
      replace BK607 := bb_ BK607 hb
      replace BK608 := bb_ BK608 hb
      replace HB := bt_ HB hb
      clear hb hbox hg
      refine hK.out _ _ ⟨(blk_cell BK608.out 0).trans rfl, (blk_cell BK608.out 1).trans rfl, (blk_cell BK608.out 2).trans rfl, (blk_cell BK607.out 0).trans rfl, (blk_cell BK607.out 1).trans rfl, (blk_cell BK607.out 2).trans rfl⟩ (fun hHeld => ?_)
      clear hK K
      refine norm_ (a' := ?_) ?_ ?_
      rotate_left
      ·show Act.put _ (some 7) _ = _
       simp only [Act.put, lstS, lstZ, lstC, i64_w, i32_w]
       rfl
      exact norm_ (by simp only [putAll, Act.put, lstS, lstZ, lstC]) (hCont (gb614) _ ⟨hHeld, (bl_ BK607).out, (bl_ BK608).out, (bl_ BK614).out, GW614.out, GE614.out, NB607_614.out, NB614_607.out, NB608_614.out, NB614_608.out, (bw_ HB).out⟩)
     ·skip
      refine box_step ?hg (N := 7) ?hd (cs := #[.int .i64 0, .int .i64 0, .int .i64 0]) (t := 28) ?hr ?_; (case hd => rfl); (case hg => rfl); (case hr => first | (go_simp; done) | (go_simp; rfl))
      intro gb614 hg w35 hbox hb
      have BK614 := Aside0.mk (hbox)
      have GW614 := bs_ HB hg
      have GE614 := bs_ HB hg
      have NB607_614 := bm_ BK607 hg
      have NB614_607 := bn_ BK607 hg
      have NB608_614 := bm_ BK608 hg
      have NB614_608 := bn_ BK608 hg
      replace BK607 := bb_ BK607 hb
      replace BK608 := bb_ BK608 hb
      replace HB := bt_ HB hb
      clear hb hbox hg
      refine hK.out _ _ ⟨(blk_cell BK608.out 0).trans rfl, (blk_cell BK608.out 1).trans rfl, (blk_cell BK608.out 2).trans rfl, (blk_cell BK607.out 0).trans rfl, (blk_cell BK607.out 1).trans rfl, (blk_cell BK607.out 2).trans rfl⟩ (fun hHeld => ?_)
      clear hK K
      refine norm_ (a' := ?_) ?_ ?_
      rotate_left
      ·show Act.put _ (some 7) _ = _
       simp only [Act.put, lstS, lstZ, lstC, i64_w, i32_w]
       rfl
      refine one_ (i := 9) (N := some 24) #[true, true, true, true, true, true, true, true, true, true, false, false, false, true, false, false] rfl rfl (one_of HT_.out (by kernel_rfl)) (by decide) (fun K hK => ?_)
      refine goes_ Try.func74 (by kernel_rfl) rfl #[.int .i64 a0, .int .i64 a2_1, .int .i64 t609, .int .i64 a1_0] (by rfl) rfl rfl (by (try simp only [List.map_toArray, List.map_cons, List.map_nil]); first | done | rfl | (simp only [List.length_drop, List.length_take]; rfl)) ?_
      with_reducible refine (spec_l01Of.calls k a0 a2_1 t609 a1_0 t610 t611 t612 false _ A11.out).mono ?_
      rintro e w36 ⟨rfl, hb⟩
      refine ⟨_, rfl, ?_⟩
      replace BK607 := bb_ BK607 hb
      replace BK608 := bb_ BK608 hb
      replace BK614 := bb_ BK614 hb
      replace HB := bt_ HB hb
      (try clear hb)
      (try clear hb2)
      (try clear hk)
      (try clear hi)
      refine hK.out _ _ ⟨(blk_cell BK608.out 0).trans rfl, (blk_cell BK608.out 1).trans rfl, (blk_cell BK608.out 2).trans rfl, (blk_cell BK607.out 0).trans rfl, (blk_cell BK607.out 1).trans rfl, (blk_cell BK607.out 2).trans rfl⟩ (fun hHeld => ?_)
      clear hK K
      refine norm_ (a' := ?_) ?_ ?_
      rotate_left
      ·show Act.put _ (some 24) _ = _
       simp only [Act.put, lstS, lstZ, lstC, i64_w, i32_w]
       rfl
      refine pu_ HT_ 10 (some 14) #[true, true, true, true, true, true, true, true, true, true, true, false, false, true, false, false] ?_
      refine pu_ HT_ 11 (some 25) #[true, true, true, true, true, true, true, true, true, true, true, true, false, true, false, false] ?_
      refine pu_ HT_ 12 (some 26) #[true, true, true, true, true, true, true, true, true, true, true, true, true, true, false, false] ?_
      exact norm_ (by simp only [putAll, Act.put, lstS, lstZ, lstC]) (hCont (gb614) _ ⟨hHeld, (bl_ BK607).out, (bl_ BK608).out, (bl_ BK614).out, GW614.out, GE614.out, NB607_614.out, NB614_607.out, NB608_614.out, NB614_608.out, (bw_ HB).out⟩)
    ·skip
     refine box_step ?hg (N := 7) ?hd (cs := #[.int .i64 0, .int .i64 0, .int .i64 0]) (t := 28) ?hr ?_; (case hd => rfl); (case hg => rfl); (case hr => first | (go_simp; done) | (go_simp; rfl))
     intro gb614 hg w35 hbox hb
     have BK614 := Aside0.mk (hbox)
     have GW614 := bs_ HB hg
     have GE614 := bs_ HB hg
     have NB607_614 := bm_ BK607 hg
     have NB614_607 := bn_ BK607 hg
     have NB608_614 := bm_ BK608 hg
     have NB614_608 := bn_ BK608 hg
     replace BK607 := bb_ BK607 hb
     replace BK608 := bb_ BK608 hb
     replace HB := bt_ HB hb
     clear hb hbox hg
     refine hK.out _ _ ⟨(blk_cell BK608.out 0).trans rfl, (blk_cell BK608.out 1).trans rfl, (blk_cell BK608.out 2).trans rfl, (blk_cell BK607.out 0).trans rfl, (blk_cell BK607.out 1).trans rfl, (blk_cell BK607.out 2).trans rfl⟩ (fun hHeld => ?_)
     clear hK K
     refine norm_ (a' := ?_) ?_ ?_
     rotate_left
     ·show Act.put _ (some 7) _ = _
      simp only [Act.put, lstS, lstZ, lstC, i64_w, i32_w]
      rfl
     refine one_ (i := 6) (N := some 21) #[true, true, true, true, true, true, true, true, true, false, false, false, false, true, false, false] rfl rfl (one_of HT_.out (by kernel_rfl)) (by decide) (fun K hK => ?_)
     refine goes_ Try.func72 (by kernel_rfl) rfl #[.int .i64 a0, .int .i64 a2_2] (by rfl) rfl rfl (by (try simp only [List.map_toArray, List.map_cons, List.map_nil]); first | done | rfl | (simp only [List.length_drop, List.length_take]; rfl)) ?_
     with_reducible refine (spec_l01Power.calls k a0 a2_2 t609 _ A10.out).mono ?_
     rintro e w' ⟨rfl, ⟨nd, rfl⟩⟩
     refine ⟨_, rfl, ?_⟩
     refine hK.out _ _ ⟨(blk_cell BK608.out 0).trans rfl, (blk_cell BK608.out 1).trans rfl, (blk_cell BK608.out 2).trans rfl, (blk_cell BK607.out 0).trans rfl, (blk_cell BK607.out 1).trans rfl, (blk_cell BK607.out 2).trans rfl⟩ (fun hHeld => ?_)
     clear hK K
     refine norm_ (a' := ?_) ?_ ?_
     rotate_left
     ·show Act.put _ (some 21) _ = _
      simp only [Act.put, lstS, lstZ, lstC, i64_w, i32_w]
      rfl
     refine one_ (i := 9) (N := some 24) #[true, true, true, true, true, true, true, true, true, true, false, false, false, true, false, false] rfl rfl (one_of HT_.out (by kernel_rfl)) (by decide) (fun K hK => ?_)
     refine goes_ Try.func74 (by kernel_rfl) rfl #[.int .i64 a0, .int .i64 a2_1, .int .i64 t609, .int .i64 a1_0] (by rfl) rfl rfl (by (try simp only [List.map_toArray, List.map_cons, List.map_nil]); first | done | rfl | (simp only [List.length_drop, List.length_take]; rfl)) ?_
     with_reducible refine (spec_l01Of.calls k a0 a2_1 t609 a1_0 t610 t611 t612 false _ A11.out).mono ?_
     rintro e w36 ⟨rfl, hb⟩
     refine ⟨_, rfl, ?_⟩
     replace BK607 := bb_ BK607 hb
     replace BK608 := bb_ BK608 hb
     replace BK614 := bb_ BK614 hb
     replace HB := bt_ HB hb
     (try clear hb)
     (try clear hb2)
     (try clear hk)
     (try clear hi)
     refine hK.out _ _ ⟨(blk_cell BK608.out 0).trans rfl, (blk_cell BK608.out 1).trans rfl, (blk_cell BK608.out 2).trans rfl, (blk_cell BK607.out 0).trans rfl, (blk_cell BK607.out 1).trans rfl, (blk_cell BK607.out 2).trans rfl⟩ (fun hHeld => ?_)
     clear hK K
     refine norm_ (a' := ?_) ?_ ?_
     rotate_left
     ·show Act.put _ (some 24) _ = _
      simp only [Act.put, lstS, lstZ, lstC, i64_w, i32_w]
      rfl
     refine pu_ HT_ 10 (some 14) #[true, true, true, true, true, true, true, true, true, true, true, false, false, true, false, false] ?_
     refine pu_ HT_ 11 (some 25) #[true, true, true, true, true, true, true, true, true, true, true, true, false, true, false, false] ?_
     refine pu_ HT_ 12 (some 26) #[true, true, true, true, true, true, true, true, true, true, true, true, true, true, false, false] ?_
     exact norm_ (by simp only [putAll, Act.put, lstS, lstZ, lstC]) (hCont (gb614) _ ⟨hHeld, (bl_ BK607).out, (bl_ BK608).out, (bl_ BK614).out, GW614.out, GE614.out, NB607_614.out, NB614_607.out, NB608_614.out, NB614_608.out, (bw_ HB).out⟩)
   rintro gb614 w37 ⟨hS_, h0_, h1_, h2_, h3_, h4_, h5_, h6_, h7_, h8_, h9_⟩
   have n0_ : Aside0 (w37.heap[gb607]? = some (.cells #[.int .i64 a1_0, .int .i64 a1_1, .int .i64 a1_2] 28 (0, 0))) := ⟨h0_⟩
   have n1_ : Aside0 (w37.heap[gb608]? = some (.cells #[.int .i64 a2_0, .int .i64 a2_1, .int .i64 a2_2] 28 (0, 0))) := ⟨h1_⟩
   have n2_ : Aside0 (w37.heap[gb614]? = some (.cells #[.int .i64 0, .int .i64 0, .int .i64 0] 28 (0, 0))) := ⟨h2_⟩
   have n3_ : Aside0 (w.heap.size ≤ gb614) := ⟨h3_⟩
   have n4_ : Aside0 (w.heap.size ≤ gb614) := ⟨h4_⟩
   have n5_ : Aside0 (gb607 ≠ gb614) := ⟨h5_⟩
   have n6_ : Aside0 (gb614 ≠ gb607) := ⟨h6_⟩
   have n7_ : Aside0 (gb608 ≠ gb614) := ⟨h7_⟩
   have n8_ : Aside0 (gb614 ≠ gb608) := ⟨h8_⟩
   have n9_ : Aside0 (Below w.heap.size w w37) := ⟨h9_⟩
   clear BK607
   clear BK608
   clear HB
   clear h0_ h1_ h2_ h3_ h4_ h5_ h6_ h7_ h8_ h9_
   have BK607 := n0_
   have BK608 := n1_
   have BK614 := n2_
   have GW614 := n3_
   have GE614 := n4_
   have NB607_614 := n5_
   have NB614_607 := n6_
   have NB608_614 := n7_
   have NB614_608 := n8_
   have HB := n9_
   clear n0_ n1_ n2_ n3_ n4_ n5_ n6_ n7_ n8_ n9_
   have hHeld : w37.cell? ⟨gb608, 0, none⟩ = some (.int .i64 a2_0) ∧ w37.cell? ⟨gb608, 1, none⟩ = some (.int .i64 a2_1) ∧ w37.cell? ⟨gb608, 2, none⟩ = some (.int .i64 a2_2) ∧ w37.cell? ⟨gb607, 0, none⟩ = some (.int .i64 a1_0) ∧ w37.cell? ⟨gb607, 1, none⟩ = some (.int .i64 a1_1) ∧ w37.cell? ⟨gb607, 2, none⟩ = some (.int .i64 a1_2) := hS_
   refine norm_ (a' := ?_) ?_ ?_
   rotate_left
   ·simp only [putAll, Act.put, lstS, lstZ, lstC]
    rfl
   refine one_ (i := 14) (N := none) #[true, true, true, true, true, true, true, true, true, true, true, true, true, true, true, false] rfl rfl (one_of HT_.out (by kernel_rfl)) (by decide) (fun K hK => ?_)
   have hs38 : w37.cell? ⟨gb614, 0, none⟩ = some (.int .i64 0) := (blk_cell BK614.out 0).trans rfl
   have hfs38 := blk_frozen BK614.out 0
   have hns38_0 := NB607_614.out
   have hns38_1 := NB608_614.out
   have hms38_0 := NB614_607.out
   have hms38_1 := NB614_608.out
   have hs39 : w37.cell? ⟨gb614, 1, none⟩ = some (.int .i64 0) := (blk_cell BK614.out 1).trans rfl
   have hfs39 := blk_frozen BK614.out 1
   have hns39_0 := NB607_614.out
   have hns39_1 := NB608_614.out
   have hms39_0 := NB614_607.out
   have hms39_1 := NB614_608.out
   have hs40 : w37.cell? ⟨gb614, 2, none⟩ = some (.int .i64 0) := (blk_cell BK614.out 2).trans rfl
   have hfs40 := blk_frozen BK614.out 2
   have hns40_0 := NB607_614.out
   have hns40_1 := NB608_614.out
   have hms40_0 := NB614_607.out
   have hms40_1 := NB614_608.out
   refine skip_ (w1 := ?_) (by rfl) rfl ?_ ?_
   rotate_left
   ·go_simp
    rfl
   refine hK.out _ _ ⟨((cell_far (p := ⟨gb614, _, none⟩) NB608_614.out _).trans (((cell_far (p := ⟨gb614, _, none⟩) NB608_614.out _).trans (((cell_far (p := ⟨gb614, _, none⟩) NB608_614.out _).trans (hHeld.1)))))), ((cell_far (p := ⟨gb614, _, none⟩) NB608_614.out _).trans (((cell_far (p := ⟨gb614, _, none⟩) NB608_614.out _).trans (((cell_far (p := ⟨gb614, _, none⟩) NB608_614.out _).trans (hHeld.2.1)))))), ((cell_far (p := ⟨gb614, _, none⟩) NB608_614.out _).trans (((cell_far (p := ⟨gb614, _, none⟩) NB608_614.out _).trans (((cell_far (p := ⟨gb614, _, none⟩) NB608_614.out _).trans (hHeld.2.2.1)))))), ((cell_far (p := ⟨gb614, _, none⟩) NB607_614.out _).trans (((cell_far (p := ⟨gb614, _, none⟩) NB607_614.out _).trans (((cell_far (p := ⟨gb614, _, none⟩) NB607_614.out _).trans (hHeld.2.2.2.1)))))), ((cell_far (p := ⟨gb614, _, none⟩) NB607_614.out _).trans (((cell_far (p := ⟨gb614, _, none⟩) NB607_614.out _).trans (((cell_far (p := ⟨gb614, _, none⟩) NB607_614.out _).trans (hHeld.2.2.2.2.1)))))), ((cell_far (p := ⟨gb614, _, none⟩) NB607_614.out _).trans (((cell_far (p := ⟨gb614, _, none⟩) NB607_614.out _).trans (((cell_far (p := ⟨gb614, _, none⟩) NB607_614.out _).trans (hHeld.2.2.2.2.2))))))⟩ (fun hHeld => ?_)
   clear hK K
   refine pu_ HT_ 15 (some 8) #[true, true, true, true, true, true, true, true, true, true, true, true, true, true, true, true] ?_
   refine done_ (done_of HT_.out (by kernel_rfl)) ?_
   try go_wp2
   go_ret
   exact ⟨by first | rfl | (simp [errW_none, errW_some] <;> rfl) | (simp [*, errW_none, errW_some] <;> rfl), by repeat (first | (with_reducible first | exact HB.out | apply below_alloc | apply pw_below_drewN | apply below_drew1 | refine below_set ?_ GE607.out | refine below_set ?_ GE608.out | refine below_set ?_ GE614.out) | exact HB.out)⟩
end Go.Proofs.Ytojpcbbmbnmchaa.QC
