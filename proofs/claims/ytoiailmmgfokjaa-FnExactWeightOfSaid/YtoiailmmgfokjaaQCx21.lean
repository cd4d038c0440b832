-- Written by a program of this session out of Lean's own print of the loaded program; Lean checks it.
import Derived.Test.YtoiailmmgfokjaaQCx6
import Derived.Test.YtoiailmmgfokjaaQCx18
import Derived.Test.YtoiailmmgfokjaaQCx20
namespace Go.Proofs.Ytoiailmmgfokjaa.QC
open Go.RowKit Go.Proofs.YtoiailmmgfokjaaW.PrintWords Go.Proofs.YtoiailmmgfokjaaW.PrintLast Go.Proofs.YtoiailmmgfokjaaW.PrintMore
attribute [local go_sem] isSome_setCell max2_int min2_int max_two min_two max_three min_three max_four min_four   -- for this text's walks alone
set_option linter.unusedVariables false
set_option linter.unusedSimpArgs false

attribute [local go_sem high] eqA30
/-! ### spec_l01Holds: function 54 -/
def spec_l01Holds.f (k : Nat) (a0 : Int) (a1_0 : Int) (a1_1 : Int) (a1_2 : Int) (a2_0 : Int) (a2_1 : Int) (a2_2 : Int) : Option (Bool) := if a1_0 > a2_0 then (some false) else ((spec_l01Power.f k a0 a2_2).bind fun t162 => ((spec_l01Of.f k a0 a2_1 t162 a1_0).bind fun bt163 => (if bt163.2.2.2 = true then (some (bt163.1 == a1_0 && (bt163.2.1 == a1_1 && (bt163.2.2.1 == a1_2)))) else (some false))))
def spec_l01Holds.T3 : Bool × List (List Nat × List Nat) := (true, [([], []), ([], []), ([1], [1]), ([], []), ([], []), ([4], [4]), ([3, 5], [3, 5]), ([], []), ([7], [7]), ([0, 2, 6, 8, 6], [0, 2, 6, 8]), ([9], [9]), ([10], [10]), ([10], [10]), ([], []), ([13, 11, 9, 0, 1, 2, 3, 4, 5, 6, 7, 8, 9, 10, 11, 13], [11, 13]), ([12, 14, 0, 1, 2, 3, 4, 5, 6, 7, 8, 9, 10, 11, 12, 13, 14], [12])])
def spec_l01Holds.B3 : List Nat := [0, 0, 2, 0, 0, 16, 56, 0, 128, 511, 1023, 2047, 2047, 0, 12287, 32767]
theorem spec_l01Holds.tab3 : rtab .any (opsOf Try.f54 3) = spec_l01Holds.T3 := by kernel_rfl
theorem spec_l01Holds.bits3 : waitsOk spec_l01Holds.T3.2 spec_l01Holds.B3 = true := by kernel_rfl
set_option maxHeartbeats 8000000 in
set_option maxRecDepth 100000 in
theorem spec_l01Holds.calls (k : Nat) (a0 : Int) (a1_0 : Int) (a1_1 : Int) (a1_2 : Int) (a2_0 : Int) (a2_1 : Int) (a2_2 : Int) (r : Bool) (w : World) (h : spec_l01Holds.f k a0 a1_0 a1_1 a1_2 a2_0 a2_1 a2_2 = some r) :
  Calls Try.prog 54 #[.int .i64 a0, .agg #[.int .i64 a1_0, .int .i64 a1_1, .int .i64 a1_2], .agg #[.int .i64 a2_0, .int .i64 a2_1, .int .i64 a2_2]] w fun e w' => e = .returned (.bool r) ∧ Below w.heap.size w w' := by
 have hu30 := Try.underlying30
 have HB := Aside0.mk (Below.refl w.heap.size w)
 have H : (if a1_0 > a2_0 then (some false) else ((spec_l01Power.f k a0 a2_2).bind fun t162 => ((spec_l01Of.f k a0 a2_1 t162 a1_0).bind fun bt163 => (if bt163.2.2.2 = true then (some (bt163.1 == a1_0 && (bt163.2.1 == a1_1 && (bt163.2.2.1 == a1_2)))) else (some false))))) = some r := h
 clear h
 by_cases c4 : a1_0 > a2_0
 ·rw [if_pos c4] at H
  have c4b0 : decide (a2_0 < a1_0) = true := decide_eq_true c4
  clear c4
  obtain rfl := Option.some.inj H
  go_enter Try.func54, Try.ntmps54
  go_wp2_with (first | ((with_reducible refine gate_dst (N := 4) rfl ?_); refine bx_ 4 #[.int .i64 a1_0, .int .i64 a1_1, .int .i64 a1_2] 30 ?_; intro gb160 hg w5 hbox hb; have BK160 := Aside0.mk (hbox); have GW160 := bs_ HB hg; have GE160 := bs_ HB hg; replace HB := bt_ HB hb; clear hb hbox hg) | ((with_reducible refine gate_dst (N := 5) rfl ?_); refine bx_ 5 #[.int .i64 a2_0, .int .i64 a2_1, .int .i64 a2_2] 30 ?_; intro gb161 hg w6 hbox hb; have BK161 := Aside0.mk (hbox); have GW161 := bs_ HB hg; have GE161 := bs_ HB hg; have NB160_161 := bm_ BK160 hg; have NB161_160 := bn_ BK160 hg; replace BK160 := bb_ BK160 hb; replace HB := bt_ HB hb; clear hb hbox hg; have hnb7 := NB160_161.out; have hnc7 := NB161_160.out; have hcz8_0 : w6.cell? ⟨gb160, 0, none⟩ = some (.int .i64 a1_0) := cz_ BK160 0; have hcz8_1 : w6.cell? ⟨gb160, 1, none⟩ = some (.int .i64 a1_1) := cz_ BK160 1; have hcz8_2 : w6.cell? ⟨gb160, 2, none⟩ = some (.int .i64 a1_2) := cz_ BK160 2; have hfz8_0 := fz_ BK160 0; have hfz8_1 := fz_ BK160 1; have hfz8_2 := fz_ BK160 2; have hcz9_0 : w6.cell? ⟨gb161, 0, none⟩ = some (.int .i64 a2_0) := cz_ BK161 0; have hcz9_1 : w6.cell? ⟨gb161, 1, none⟩ = some (.int .i64 a2_1) := cz_ BK161 1; have hcz9_2 : w6.cell? ⟨gb161, 2, none⟩ = some (.int .i64 a2_2) := cz_ BK161 2; have hfz9_0 := fz_ BK161 0; have hfz9_1 := fz_ BK161 1; have hfz9_2 := fz_ BK161 2))
  go_ret
  exact ⟨by first | rfl | (simp [errW_none, errW_some] <;> rfl) | (simp [*, errW_none, errW_some] <;> rfl), by repeat (first | (with_reducible first | exact HB.out | apply below_alloc | apply pw_below_drewN | apply below_drew1 | refine below_set ?_ GE160.out | refine below_set ?_ GE161.out) | exact HB.out)⟩
 ·rw [if_neg c4] at H
  have c4b0 : decide (a2_0 < a1_0) = false := decide_eq_false c4
  clear c4
  replace H := Option.bind_eq_some_iff.mp H
  obtain ⟨t162, A100, H⟩ := H
  have A10 := Aside0.mk A100
  clear A100
  replace H := Option.bind_eq_some_iff.mp H
  obtain ⟨⟨t163, t164, t165, t166⟩, A110, H⟩ := H
  have A11 := Aside0.mk A110
  clear A110
  by_cases c12 : t166 = true
  ·subst c12
   have H1 : (some (t163 == a1_0 && (t164 == a1_1 && (t165 == a1_2)))) = some r := by rw [if_pos rfl] at H; exact H
   clear H
   have H := H1
   clear H1
   obtain rfl := Option.some.inj H
   go_enter Try.func54, Try.ntmps54
   try go_wp2_with (first | ((with_reducible refine gate_dst (N := 4) rfl ?_); refine bx_ 4 #[.int .i64 a1_0, .int .i64 a1_1, .int .i64 a1_2] 30 ?_; intro gb160 hg w13 hbox hb; have BK160 := Aside0.mk (hbox); have GW160 := bs_ HB hg; have GE160 := bs_ HB hg; replace HB := bt_ HB hb; clear hb hbox hg) | ((with_reducible refine gate_dst (N := 5) rfl ?_); refine bx_ 5 #[.int .i64 a2_0, .int .i64 a2_1, .int .i64 a2_2] 30 ?_; intro gb161 hg w14 hbox hb; have BK161 := Aside0.mk (hbox); have GW161 := bs_ HB hg; have GE161 := bs_ HB hg; have NB160_161 := bm_ BK160 hg; have NB161_160 := bn_ BK160 hg; replace BK160 := bb_ BK160 hb; replace HB := bt_ HB hb; clear hb hbox hg; have hnb15 := NB160_161.out; have hnc15 := NB161_160.out; have hcz16_0 : w14.cell? ⟨gb160, 0, none⟩ = some (.int .i64 a1_0) := cz_ BK160 0; have hcz16_1 : w14.cell? ⟨gb160, 1, none⟩ = some (.int .i64 a1_1) := cz_ BK160 1; have hcz16_2 : w14.cell? ⟨gb160, 2, none⟩ = some (.int .i64 a1_2) := cz_ BK160 2; have hfz16_0 := fz_ BK160 0; have hfz16_1 := fz_ BK160 1; have hfz16_2 := fz_ BK160 2; have hcz17_0 : w14.cell? ⟨gb161, 0, none⟩ = some (.int .i64 a2_0) := cz_ BK161 0; have hcz17_1 : w14.cell? ⟨gb161, 1, none⟩ = some (.int .i64 a2_1) := cz_ BK161 1; have hcz17_2 : w14.cell? ⟨gb161, 2, none⟩ = some (.int .i64 a2_2) := cz_ BK161 2; have hfz17_0 := fz_ BK161 0; have hfz17_1 := fz_ BK161 1; have hfz17_2 := fz_ BK161 2))
   replace BK160 := Aside0.mk (blk_drew BK160.out)
   replace BK161 := Aside0.mk (blk_drew BK161.out)
   replace HB := Aside0.mk (below_drew1 HB.out)
   refine start_ (n := 16) (S := fun w' => w'.cell? ⟨gb161, 0, none⟩ = some (.int .i64 a2_0) ∧ w'.cell? ⟨gb161, 1, none⟩ = some (.int .i64 a2_1) ∧ w'.cell? ⟨gb161, 2, none⟩ = some (.int .i64 a2_2) ∧ w'.cell? ⟨gb160, 0, none⟩ = some (.int .i64 a1_0) ∧ w'.cell? ⟨gb160, 1, none⟩ = some (.int .i64 a1_1) ∧ w'.cell? ⟨gb160, 2, none⟩ = some (.int .i64 a1_2)) (ds := []) (bv_ 16 0) (by kernel_rfl) rfl rfl ⟨(blk_cell BK161.out 0).trans rfl, (blk_cell BK161.out 1).trans rfl, (blk_cell BK161.out 2).trans rfl, (blk_cell BK160.out 0).trans rfl, (blk_cell BK160.out 1).trans rfl, (blk_cell BK160.out 2).trans rfl⟩ (fun hHeld => ?_); refine with_tabW spec_l01Holds.tab3 spec_l01Holds.bits3 (fun HT_ HW_ => ?_)
   generalize w14.drew = w18 at BK160 BK161 HB hHeld ⊢
   refine pu_ HT_ 0 (some 15) (bv_ 16 1) ?_
   refine pu_ HT_ 1 (some 16) (bv_ 16 3) ?_
   refine pu_ HT_ 3 (some 18) (bv_ 16 11) ?_
   refine pu_ HT_ 4 (some 19) (bv_ 16 27) ?_
   refine pu_ HT_ 7 (some 22) (bv_ 16 155) ?_
   refine ta_ HT_ HW_ 2 (some 17) (bv_ 16 159) hHeld ?_ (hy := by rintro w' ⟨s0, s1, s2, s3, s4, s5⟩; go_simp; with_reducible rfl)
   refine ta_ HT_ HW_ 5 (some 20) (bv_ 16 191) hHeld ?_ (hy := by rintro w' ⟨s0, s1, s2, s3, s4, s5⟩; go_simp; with_reducible rfl)
   refine ta_ HT_ HW_ 8 (some 23) (bv_ 16 447) hHeld ?_ (hy := by rintro w' ⟨s0, s1, s2, s3, s4, s5⟩; go_simp; with_reducible rfl)
   refine join_ (σ := Nat) 2 (bv_ 16 16383) (fun s_ => [(21, .int .i64 t162), (24, .tuple #[.agg #[.int .i64 t163, .int .i64 t164, .int .i64 t165], .bool true]), (7, .pointer (some ⟨s_, 0, none⟩)), (14, .tuple #[.agg #[.int .i64 t163, .int .i64 t164, .int .i64 t165], .bool true]), (25, .agg #[.int .i64 t163, .int .i64 t164, .int .i64 t165]), (26, .bool true)]) (fun s_ w' => (w'.cell? ⟨gb161, 0, none⟩ = some (.int .i64 a2_0) ∧ w'.cell? ⟨gb161, 1, none⟩ = some (.int .i64 a2_1) ∧ w'.cell? ⟨gb161, 2, none⟩ = some (.int .i64 a2_2) ∧ w'.cell? ⟨gb160, 0, none⟩ = some (.int .i64 a1_0) ∧ w'.cell? ⟨gb160, 1, none⟩ = some (.int .i64 a1_1) ∧ w'.cell? ⟨gb160, 2, none⟩ = some (.int .i64 a1_2)) ∧ (w'.heap[gb160]? = some (.cells #[.int .i64 a1_0, .int .i64 a1_1, .int .i64 a1_2] 30 (0, 0))) ∧ (w'.heap[gb161]? = some (.cells #[.int .i64 a2_0, .int .i64 a2_1, .int .i64 a2_2] 30 (0, 0))) ∧ (w'.heap[s_]? = some (.cells #[.int .i64 0, .int .i64 0, .int .i64 0] 30 (0, 0))) ∧ (w.heap.size ≤ s_) ∧ (w.heap.size ≤ s_) ∧ (gb160 ≠ s_) ∧ (s_ ≠ gb160) ∧ (gb161 ≠ s_) ∧ (s_ ≠ gb161) ∧ (Below w.heap.size w w')) ?_ ?_
   rotate_left
   ·intro hCont
    refine two_ (i := 6) (j := 13) (Ni := some 21) (Nj := some 7) (bv_ 16 511) (bv_ 16 8639) rfl rfl rfl rfl (two_of HT_.out (by kernel_rfl)) (by decide) (by decide) (fun K hK => ?_) (fun K hK => ?_)
    ·skip
     refine goes_ Try.func64 (by kernel_rfl) rfl #[.int .i64 a0, .int .i64 a2_2] (by rfl) rfl rfl (by (try simp only [List.map_toArray, List.map_cons, List.map_nil]); first | done | rfl | (simp only [List.length_drop, List.length_take]; rfl)) ?_
     with_reducible refine (spec_l01Power.calls k a0 a2_2 t162 _ A10.out).mono ?_
     rintro e w' ⟨rfl, ⟨nd, rfl⟩⟩
     refine ⟨_, rfl, ?_⟩
     refine hK.out _ _ ⟨(blk_cell BK161.out 0).trans rfl, (blk_cell BK161.out 1).trans rfl, (blk_cell BK161.out 2).trans rfl, (blk_cell BK160.out 0).trans rfl, (blk_cell BK160.out 1).trans rfl, (blk_cell BK160.out 2).trans rfl⟩ (fun hHeld => ?_)
     clear hK K
     refine norm_ (a' := ?_) ?_ ?_
     rotate_left
     ·show Act.put _ (some 21) _ = _
      simp only [Act.put, lstS, lstZ, lstC, i64_w, i32_w]
      rfl
     refine two_ (i := 9) (j := 13) (Ni := some 24) (Nj := some 7) (bv_ 16 1023) (bv_ 16 8703) rfl rfl rfl rfl (two_of HT_.out (by kernel_rfl)) (by decide) (by decide) (fun K hK => ?_) (fun K hK => ?_)
     ·skip
      refine goes_ Try.func80 (by kernel_rfl) rfl #[.int .i64 a0, .int .i64 a2_1, .int .i64 t162, .int .i64 a1_0] (by rfl) rfl rfl (by (try simp only [List.map_toArray, List.map_cons, List.map_nil]); first | done | rfl | (simp only [List.length_drop, List.length_take]; rfl)) ?_
      with_reducible refine (spec_l01Of.calls k a0 a2_1 t162 a1_0 t163 t164 t165 true _ A11.out).mono ?_
      rintro e w19 ⟨rfl, hb⟩
      refine ⟨_, rfl, ?_⟩
      replace BK160 := bb_ BK160 hb
      replace BK161 := bb_ BK161 hb
      replace HB := bt_ HB hb
      (try clear hb)
      (try clear hb2)
      (try clear hk)
      (try clear hi)
      refine hK.out _ _ ⟨(blk_cell BK161.out 0).trans rfl, (blk_cell BK161.out 1).trans rfl, (blk_cell BK161.out 2).trans rfl, (blk_cell BK160.out 0).trans rfl, (blk_cell BK160.out 1).trans rfl, (blk_cell BK160.out 2).trans rfl⟩ (fun hHeld => ?_)
      clear hK K
      refine norm_ (a' := ?_) ?_ ?_
      rotate_left
      ·show Act.put _ (some 24) _ = _
       simp only [Act.put, lstS, lstZ, lstC, i64_w, i32_w]
       rfl
      refine pu_ HT_ 10 (some 14) (bv_ 16 2047) ?_
      refine pu_ HT_ 11 (some 25) (bv_ 16 4095) ?_
      refine pu_ HT_ 12 (some 26) (bv_ 16 8191) ?_
      refine one_ (i := 13) (N := some 7) (bv_ 16 16383) rfl rfl (one_of HT_.out (by kernel_rfl)) (by decide) (fun K hK => ?_)
      refine box_step ?hg (N := 7) ?hd (cs := #[.int .i64 0, .int .i64 0, .int .i64 0]) (t := 30) ?hr ?_; (case hd => rfl); (case hg => rfl); (case hr => first | (go_simp; done) | (go_simp; rfl))
      intro gb167 hg w20 hbox hb
      have BK167 := Aside0.mk (hbox)
      have GW167 := bs_ HB hg
      have GE167 := bs_ HB hg
      have NB160_167 := bm_ BK160 hg
      have NB167_160 := bn_ BK160 hg
      have NB161_167 := bm_ BK161 hg
      have NB167_161 := bn_ BK161 hg
      replace BK160 := bb_ BK160 hb
      replace BK161 := bb_ BK161 hb
      replace HB := bt_ HB hb
      clear hb hbox hg
      refine hK.out _ _ ⟨(blk_cell BK161.out 0).trans rfl, (blk_cell BK161.out 1).trans rfl, (blk_cell BK161.out 2).trans rfl, (blk_cell BK160.out 0).trans rfl, (blk_cell BK160.out 1).trans rfl, (blk_cell BK160.out 2).trans rfl⟩ (fun hHeld => ?_)
      clear hK K
      refine norm_ (a' := ?_) ?_ ?_
      rotate_left
      ·show Act.put _ (some 7) _ = _
       simp only [Act.put, lstS, lstZ, lstC, i64_w, i32_w]
       rfl
      exact norm_ (by simp only [putAll, Act.put, lstS, lstZ, lstC]) (hCont (gb167) _ ⟨hHeld, (bl_ BK160).out, (bl_ BK161).out, (bl_ BK167).out, GW167.out, GE167.out, NB160_167.out, NB167_160.out, NB161_167.out, NB167_161.out, (bw_ HB).out⟩)
     ·skip
      refine box_step ?hg (N := 7) ?hd (cs := #[.int .i64 0, .int .i64 0, .int .i64 0]) (t := 30) ?hr ?_; (case hd => rfl); (case hg => rfl); (case hr => first | (go_simp; done) | (go_simp; rfl))
      intro gb167 hg w19 hbox hb
      have BK167 := Aside0.mk (hbox)
      have GW167 := bs_ HB hg
      have GE167 := bs_ HB hg
      have NB160_167 := bm_ BK160 hg
      have NB167_160 := bn_ BK160 hg
      have NB161_167 := bm_ BK161 hg
      have NB167_161 := bn_ BK161 hg
      replace BK160 := bb_ BK160 hb
      replace BK161 := bb_ BK161 hb
      replace HB := bt_ HB hb
      clear hb hbox hg
      refine hK.out _ _ ⟨(blk_cell BK161.out 0).trans rfl, (blk_cell BK161.out 1).trans rfl, (blk_cell BK161.out 2).trans rfl, (blk_cell BK160.out 0).trans rfl, (blk_cell BK160.out 1).trans rfl, (blk_cell BK160.out 2).trans rfl⟩ (fun hHeld => ?_)
      clear hK K
      refine norm_ (a' := ?_) ?_ ?_
      rotate_left
      ·show Act.put _ (some 7) _ = _
       simp only [Act.put, lstS, lstZ, lstC, i64_w, i32_w]
       rfl
      refine one_ (i := 9) (N := some 24) (bv_ 16 9215) rfl rfl (one_of HT_.out (by kernel_rfl)) (by decide) (fun K hK => ?_)
      refine goes_ Try.func80 (by kernel_rfl) rfl #[.int .i64 a0, .int .i64 a2_1, .int .i64 t162, .int .i64 a1_0] (by rfl) rfl rfl (by (try simp only [List.map_toArray, List.map_cons, List.map_nil]); first | done | rfl | (simp only [List.length_drop, List.length_take]; rfl)) ?_
      with_reducible refine (spec_l01Of.calls k a0 a2_1 t162 a1_0 t163 t164 t165 true _ A11.out).mono ?_
      rintro e w20 ⟨rfl, hb⟩
      refine ⟨_, rfl, ?_⟩
      replace BK160 := bb_ BK160 hb
      replace BK161 := bb_ BK161 hb
      replace BK167 := bb_ BK167 hb
      replace HB := bt_ HB hb
      (try clear hb)
      (try clear hb2)
      (try clear hk)
      (try clear hi)
      refine hK.out _ _ ⟨(blk_cell BK161.out 0).trans rfl, (blk_cell BK161.out 1).trans rfl, (blk_cell BK161.out 2).trans rfl, (blk_cell BK160.out 0).trans rfl, (blk_cell BK160.out 1).trans rfl, (blk_cell BK160.out 2).trans rfl⟩ (fun hHeld => ?_)
      clear hK K
      refine norm_ (a' := ?_) ?_ ?_
      rotate_left
      ·show Act.put _ (some 24) _ = _
       simp only [Act.put, lstS, lstZ, lstC, i64_w, i32_w]
       rfl
      refine pu_ HT_ 10 (some 14) (bv_ 16 10239) ?_
      refine pu_ HT_ 11 (some 25) (bv_ 16 12287) ?_
      refine pu_ HT_ 12 (some 26) (bv_ 16 16383) ?_
      exact norm_ (by simp only [putAll, Act.put, lstS, lstZ, lstC]) (hCont (gb167) _ ⟨hHeld, (bl_ BK160).out, (bl_ BK161).out, (bl_ BK167).out, GW167.out, GE167.out, NB160_167.out, NB167_160.out, NB161_167.out, NB167_161.out, (bw_ HB).out⟩)
    ·skip
     refine box_step ?hg (N := 7) ?hd (cs := #[.int .i64 0, .int .i64 0, .int .i64 0]) (t := 30) ?hr ?_; (case hd => rfl); (case hg => rfl); (case hr => first | (go_simp; done) | (go_simp; rfl))
     intro gb167 hg w19 hbox hb
     have BK167 := Aside0.mk (hbox)
     have GW167 := bs_ HB hg
     have GE167 := bs_ HB hg
     have NB160_167 := bm_ BK160 hg
     have NB167_160 := bn_ BK160 hg
     have NB161_167 := bm_ BK161 hg
     have NB167_161 := bn_ BK161 hg
     replace BK160 := bb_ BK160 hb
     replace BK161 := bb_ BK161 hb
     replace HB := bt_ HB hb
     clear hb hbox hg
     refine hK.out _ _ ⟨(blk_cell BK161.out 0).trans rfl, (blk_cell BK161.out 1).trans rfl, (blk_cell BK161.out 2).trans rfl, (blk_cell BK160.out 0).trans rfl, (blk_cell BK160.out 1).trans rfl, (blk_cell BK160.out 2).trans rfl⟩ (fun hHeld => ?_)
     clear hK K
     refine norm_ (a' := ?_) ?_ ?_
     rotate_left
     ·show Act.put _ (some 7) _ = _
      simp only [Act.put, lstS, lstZ, lstC, i64_w, i32_w]
      rfl
     refine one_ (i := 6) (N := some 21) (bv_ 16 8703) rfl rfl (one_of HT_.out (by kernel_rfl)) (by decide) (fun K hK => ?_)
     refine goes_ Try.func64 (by kernel_rfl) rfl #[.int .i64 a0, .int .i64 a2_2] (by rfl) rfl rfl (by (try simp only [List.map_toArray, List.map_cons, List.map_nil]); first | done | rfl | (simp only [List.length_drop, List.length_take]; rfl)) ?_
     with_reducible refine (spec_l01Power.calls k a0 a2_2 t162 _ A10.out).mono ?_
     rintro e w' ⟨rfl, ⟨nd, rfl⟩⟩
     refine ⟨_, rfl, ?_⟩
     refine hK.out _ _ ⟨(blk_cell BK161.out 0).trans rfl, (blk_cell BK161.out 1).trans rfl, (blk_cell BK161.out 2).trans rfl, (blk_cell BK160.out 0).trans rfl, (blk_cell BK160.out 1).trans rfl, (blk_cell BK160.out 2).trans rfl⟩ (fun hHeld => ?_)
     clear hK K
     refine norm_ (a' := ?_) ?_ ?_
     rotate_left
     ·show Act.put _ (some 21) _ = _
      simp only [Act.put, lstS, lstZ, lstC, i64_w, i32_w]
      rfl
     refine one_ (i := 9) (N := some 24) (bv_ 16 9215) rfl rfl (one_of HT_.out (by kernel_rfl)) (by decide) (fun K hK => ?_)
     refine goes_ Try.func80 (by kernel_rfl) rfl #[.int .i64 a0, .int .i64 a2_1, .int .i64 t162, .int .i64 a1_0] (by rfl) rfl rfl (by (try simp only [List.map_toArray, List.map_cons, List.map_nil]); first | done | rfl | (simp only [List.length_drop, List.length_take]; rfl)) ?_
     with_reducible refine (spec_l01Of.calls k a0 a2_1 t162 a1_0 t163 t164 t165 true _ A11.out).mono ?_
     rintro e w20 ⟨rfl, hb⟩
     refine ⟨_, rfl, ?_⟩
     replace BK160 := bb_ BK160 hb
     replace BK161 := bb_ BK161 hb
     replace BK167 := bb_ BK167 hb
     replace HB := bt_ HB hb
     (try clear hb)
     (try clear hb2)
     (try clear hk)
     (try clear hi)
     refine hK.out _ _ ⟨(blk_cell BK161.out 0).trans rfl, (blk_cell BK161.out 1).trans rfl, (blk_cell BK161.out 2).trans rfl, (blk_cell BK160.out 0).trans rfl, (blk_cell BK160.out 1).trans rfl, (blk_cell BK160.out 2).trans rfl⟩ (fun hHeld => ?_)
     clear hK K
     refine norm_ (a' := ?_) ?_ ?_
     rotate_left
     ·show Act.put _ (some 24) _ = _
      simp only [Act.put, lstS, lstZ, lstC, i64_w, i32_w]
      rfl
     refine pu_ HT_ 10 (some 14) (bv_ 16 10239) ?_
     refine pu_ HT_ 11 (some 25) (bv_ 16 12287) ?_
     refine pu_ HT_ 12 (some 26) (bv_ 16 16383) ?_
     exact norm_ (by simp only [putAll, Act.put, lstS, lstZ, lstC]) (hCont (gb167) _ ⟨hHeld, (bl_ BK160).out, (bl_ BK161).out, (bl_ BK167).out, GW167.out, GE167.out, NB160_167.out, NB167_160.out, NB161_167.out, NB167_161.out, (bw_ HB).out⟩)
   rintro gb167 w21 ⟨hS_, h0_, h1_, h2_, h3_, h4_, h5_, h6_, h7_, h8_, h9_⟩
   have n0_ : Aside0 (w21.heap[gb160]? = some (.cells #[.int .i64 a1_0, .int .i64 a1_1, .int .i64 a1_2] 30 (0, 0))) := ⟨h0_⟩
   have n1_ : Aside0 (w21.heap[gb161]? = some (.cells #[.int .i64 a2_0, .int .i64 a2_1, .int .i64 a2_2] 30 (0, 0))) := ⟨h1_⟩
   have n2_ : Aside0 (w21.heap[gb167]? = some (.cells #[.int .i64 0, .int .i64 0, .int .i64 0] 30 (0, 0))) := ⟨h2_⟩
   have n3_ : Aside0 (w.heap.size ≤ gb167) := ⟨h3_⟩
   have n4_ : Aside0 (w.heap.size ≤ gb167) := ⟨h4_⟩
   have n5_ : Aside0 (gb160 ≠ gb167) := ⟨h5_⟩
   have n6_ : Aside0 (gb167 ≠ gb160) := ⟨h6_⟩
   have n7_ : Aside0 (gb161 ≠ gb167) := ⟨h7_⟩
   have n8_ : Aside0 (gb167 ≠ gb161) := ⟨h8_⟩
   have n9_ : Aside0 (Below w.heap.size w w21) := ⟨h9_⟩
   clear BK160
   clear BK161
   clear HB
   clear h0_ h1_ h2_ h3_ h4_ h5_ h6_ h7_ h8_ h9_
   have BK160 := n0_
   have BK161 := n1_
   have BK167 := n2_
   have GW167 := n3_
   have GE167 := n4_
   have NB160_167 := n5_
   have NB167_160 := n6_
   have NB161_167 := n7_
   have NB167_161 := n8_
   have HB := n9_
   clear n0_ n1_ n2_ n3_ n4_ n5_ n6_ n7_ n8_ n9_
   have hHeld : w21.cell? ⟨gb161, 0, none⟩ = some (.int .i64 a2_0) ∧ w21.cell? ⟨gb161, 1, none⟩ = some (.int .i64 a2_1) ∧ w21.cell? ⟨gb161, 2, none⟩ = some (.int .i64 a2_2) ∧ w21.cell? ⟨gb160, 0, none⟩ = some (.int .i64 a1_0) ∧ w21.cell? ⟨gb160, 1, none⟩ = some (.int .i64 a1_1) ∧ w21.cell? ⟨gb160, 2, none⟩ = some (.int .i64 a1_2) := hS_
   refine norm_ (a' := ?_) ?_ ?_
   rotate_left
   ·simp only [putAll, Act.put, lstS, lstZ, lstC]
    rfl
   refine one_ (i := 14) (N := none) (bv_ 16 32767) rfl rfl (one_of HT_.out (by kernel_rfl)) (by decide) (fun K hK => ?_)
   have hs22 : w21.cell? ⟨gb167, 0, none⟩ = some (.int .i64 0) := (blk_cell BK167.out 0).trans rfl
   have hfs22 := blk_frozen BK167.out 0
   have hns22_0 := NB160_167.out
   have hns22_1 := NB161_167.out
   have hms22_0 := NB167_160.out
   have hms22_1 := NB167_161.out
   have hs23 : w21.cell? ⟨gb167, 1, none⟩ = some (.int .i64 0) := (blk_cell BK167.out 1).trans rfl
   have hfs23 := blk_frozen BK167.out 1
   have hns23_0 := NB160_167.out
   have hns23_1 := NB161_167.out
   have hms23_0 := NB167_160.out
   have hms23_1 := NB167_161.out
   have hs24 : w21.cell? ⟨gb167, 2, none⟩ = some (.int .i64 0) := (blk_cell BK167.out 2).trans rfl
   have hfs24 := blk_frozen BK167.out 2
   have hns24_0 := NB160_167.out
   have hns24_1 := NB161_167.out
   have hms24_0 := NB167_160.out
   have hms24_1 := NB167_161.out
   refine skip_ (w1 := ?_) (by rfl) rfl ?_ ?_
   rotate_left
   ·go_simp
    rfl
   refine hK.out _ _ ⟨((cell_far (p := ⟨gb167, _, none⟩) NB161_167.out _).trans (((cell_far (p := ⟨gb167, _, none⟩) NB161_167.out _).trans (((cell_far (p := ⟨gb167, _, none⟩) NB161_167.out _).trans (hHeld.1)))))), ((cell_far (p := ⟨gb167, _, none⟩) NB161_167.out _).trans (((cell_far (p := ⟨gb167, _, none⟩) NB161_167.out _).trans (((cell_far (p := ⟨gb167, _, none⟩) NB161_167.out _).trans (hHeld.2.1)))))), ((cell_far (p := ⟨gb167, _, none⟩) NB161_167.out _).trans (((cell_far (p := ⟨gb167, _, none⟩) NB161_167.out _).trans (((cell_far (p := ⟨gb167, _, none⟩) NB161_167.out _).trans (hHeld.2.2.1)))))), ((cell_far (p := ⟨gb167, _, none⟩) NB160_167.out _).trans (((cell_far (p := ⟨gb167, _, none⟩) NB160_167.out _).trans (((cell_far (p := ⟨gb167, _, none⟩) NB160_167.out _).trans (hHeld.2.2.2.1)))))), ((cell_far (p := ⟨gb167, _, none⟩) NB160_167.out _).trans (((cell_far (p := ⟨gb167, _, none⟩) NB160_167.out _).trans (((cell_far (p := ⟨gb167, _, none⟩) NB160_167.out _).trans (hHeld.2.2.2.2.1)))))), ((cell_far (p := ⟨gb167, _, none⟩) NB160_167.out _).trans (((cell_far (p := ⟨gb167, _, none⟩) NB160_167.out _).trans (((cell_far (p := ⟨gb167, _, none⟩) NB160_167.out _).trans (hHeld.2.2.2.2.2))))))⟩ (fun hHeld => ?_)
   clear hK K
   refine pu_ HT_ 15 (some 8) (bv_ 16 65535) ?_
   refine done_ (done_of HT_.out (by kernel_rfl)) ?_
   have hnb25 := NB167_160.out
   have hnc25 := NB160_167.out
   have hnb26 := NB167_161.out
   have hnc26 := NB161_167.out
   have hcz27_0 : w21.cell? ⟨gb167, 0, none⟩ = some (.int .i64 0) := cz_ BK167 0
   have hcz27_1 : w21.cell? ⟨gb167, 1, none⟩ = some (.int .i64 0) := cz_ BK167 1
   have hcz27_2 : w21.cell? ⟨gb167, 2, none⟩ = some (.int .i64 0) := cz_ BK167 2
   have hfz27_0 := fz_ BK167 0
   have hfz27_1 := fz_ BK167 1
   have hfz27_2 := fz_ BK167 2
   have hcz28_0 : w21.cell? ⟨gb160, 0, none⟩ = some (.int .i64 a1_0) := cz_ BK160 0
   have hcz28_1 : w21.cell? ⟨gb160, 1, none⟩ = some (.int .i64 a1_1) := cz_ BK160 1
   have hcz28_2 : w21.cell? ⟨gb160, 2, none⟩ = some (.int .i64 a1_2) := cz_ BK160 2
   have hfz28_0 := fz_ BK160 0
   have hfz28_1 := fz_ BK160 1
   have hfz28_2 := fz_ BK160 2
   try go_wp2
   go_ret
   exact ⟨by first | rfl | (simp [errW_none, errW_some] <;> rfl) | (simp [*, errW_none, errW_some] <;> rfl), by repeat (first | (with_reducible first | exact HB.out | apply below_alloc | apply pw_below_drewN | apply below_drew1 | refine below_set ?_ GE160.out | refine below_set ?_ GE161.out | refine below_set ?_ GE167.out) | exact HB.out)⟩
  ·replace c12 := Bool.eq_false_iff.mpr c12
   subst c12
   have H1 : (some false) = some r := by rw [if_neg (show ¬ (false = true) by decide)] at H; exact H
   clear H
   have H := H1
   clear H1
   obtain rfl := Option.some.inj H
   go_enter Try.func54, Try.ntmps54
   try go_wp2_with (first | ((with_reducible refine gate_dst (N := 4) rfl ?_); refine bx_ 4 #[.int .i64 a1_0, .int .i64 a1_1, .int .i64 a1_2] 30 ?_; intro gb160 hg w29 hbox hb; have BK160 := Aside0.mk (hbox); have GW160 := bs_ HB hg; have GE160 := bs_ HB hg; replace HB := bt_ HB hb; clear hb hbox hg) | ((with_reducible refine gate_dst (N := 5) rfl ?_); refine bx_ 5 #[.int .i64 a2_0, .int .i64 a2_1, .int .i64 a2_2] 30 ?_; intro gb161 hg w30 hbox hb; have BK161 := Aside0.mk (hbox); have GW161 := bs_ HB hg; have GE161 := bs_ HB hg; have NB160_161 := bm_ BK160 hg; have NB161_160 := bn_ BK160 hg; replace BK160 := bb_ BK160 hb; replace HB := bt_ HB hb; clear hb hbox hg; have hnb31 := NB160_161.out; have hnc31 := NB161_160.out; have hcz32_0 : w30.cell? ⟨gb160, 0, none⟩ = some (.int .i64 a1_0) := cz_ BK160 0; have hcz32_1 : w30.cell? ⟨gb160, 1, none⟩ = some (.int .i64 a1_1) := cz_ BK160 1; have hcz32_2 : w30.cell? ⟨gb160, 2, none⟩ = some (.int .i64 a1_2) := cz_ BK160 2; have hfz32_0 := fz_ BK160 0; have hfz32_1 := fz_ BK160 1; have hfz32_2 := fz_ BK160 2; have hcz33_0 : w30.cell? ⟨gb161, 0, none⟩ = some (.int .i64 a2_0) := cz_ BK161 0; have hcz33_1 : w30.cell? ⟨gb161, 1, none⟩ = some (.int .i64 a2_1) := cz_ BK161 1; have hcz33_2 : w30.cell? ⟨gb161, 2, none⟩ = some (.int .i64 a2_2) := cz_ BK161 2; have hfz33_0 := fz_ BK161 0; have hfz33_1 := fz_ BK161 1; have hfz33_2 := fz_ BK161 2))
   replace BK160 := Aside0.mk (blk_drew BK160.out)
   replace BK161 := Aside0.mk (blk_drew BK161.out)
   replace HB := Aside0.mk (below_drew1 HB.out)
   refine start_ (n := 16) (S := fun w' => w'.cell? ⟨gb161, 0, none⟩ = some (.int .i64 a2_0) ∧ w'.cell? ⟨gb161, 1, none⟩ = some (.int .i64 a2_1) ∧ w'.cell? ⟨gb161, 2, none⟩ = some (.int .i64 a2_2) ∧ w'.cell? ⟨gb160, 0, none⟩ = some (.int .i64 a1_0) ∧ w'.cell? ⟨gb160, 1, none⟩ = some (.int .i64 a1_1) ∧ w'.cell? ⟨gb160, 2, none⟩ = some (.int .i64 a1_2)) (ds := []) (bv_ 16 0) (by kernel_rfl) rfl rfl ⟨(blk_cell BK161.out 0).trans rfl, (blk_cell BK161.out 1).trans rfl, (blk_cell BK161.out 2).trans rfl, (blk_cell BK160.out 0).trans rfl, (blk_cell BK160.out 1).trans rfl, (blk_cell BK160.out 2).trans rfl⟩ (fun hHeld => ?_); refine with_tabW spec_l01Holds.tab3 spec_l01Holds.bits3 (fun HT_ HW_ => ?_)
   generalize w30.drew = w34 at BK160 BK161 HB hHeld ⊢
   refine pu_ HT_ 0 (some 15) (bv_ 16 1) ?_
   refine pu_ HT_ 1 (some 16) (bv_ 16 3) ?_
   refine pu_ HT_ 3 (some 18) (bv_ 16 11) ?_
   refine pu_ HT_ 4 (some 19) (bv_ 16 27) ?_
   refine pu_ HT_ 7 (some 22) (bv_ 16 155) ?_
   refine ta_ HT_ HW_ 2 (some 17) (bv_ 16 159) hHeld ?_ (hy := by rintro w' ⟨s0, s1, s2, s3, s4, s5⟩; go_simp; with_reducible rfl)
   refine ta_ HT_ HW_ 5 (some 20) (bv_ 16 191) hHeld ?_ (hy := by rintro w' ⟨s0, s1, s2, s3, s4, s5⟩; go_simp; with_reducible rfl)
   refine ta_ HT_ HW_ 8 (some 23) (bv_ 16 447) hHeld ?_ (hy := by rintro w' ⟨s0, s1, s2, s3, s4, s5⟩; go_simp; with_reducible rfl)
   refine join_ (σ := Nat) 2 (bv_ 16 16383) (fun s_ => [(21, .int .i64 t162), (24, .tuple #[.agg #[.int .i64 t163, .int .i64 t164, .int .i64 t165], .bool false]), (7, .pointer (some ⟨s_, 0, none⟩)), (14, .tuple #[.agg #[.int .i64 t163, .int .i64 t164, .int .i64 t165], .bool false]), (25, .agg #[.int .i64 t163, .int .i64 t164, .int .i64 t165]), (26, .bool false)]) (fun s_ w' => (w'.cell? ⟨gb161, 0, none⟩ = some (.int .i64 a2_0) ∧ w'.cell? ⟨gb161, 1, none⟩ = some (.int .i64 a2_1) ∧ w'.cell? ⟨gb161, 2, none⟩ = some (.int .i64 a2_2) ∧ w'.cell? ⟨gb160, 0, none⟩ = some (.int .i64 a1_0) ∧ w'.cell? ⟨gb160, 1, none⟩ = some (.int .i64 a1_1) ∧ w'.cell? ⟨gb160, 2, none⟩ = some (.int .i64 a1_2)) ∧ (w'.heap[gb160]? = some (.cells #[.int .i64 a1_0, .int .i64 a1_1, .int .i64 a1_2] 30 (0, 0))) ∧ (w'.heap[gb161]? = some (.cells #[.int .i64 a2_0, .int .i64 a2_1, .int .i64 a2_2] 30 (0, 0))) ∧ (w'.heap[s_]? = some (.cells #[.int .i64 0, .int .i64 0, .int .i64 0] 30 (0, 0))) ∧ (w.heap.size ≤ s_) ∧ (w.heap.size ≤ s_) ∧ (gb160 ≠ s_) ∧ (s_ ≠ gb160) ∧ (gb161 ≠ s_) ∧ (s_ ≠ gb161) ∧ (Below w.heap.size w w')) ?_ ?_
   rotate_left
   ·intro hCont
    refine two_ (i := 6) (j := 13) (Ni := some 21) (Nj := some 7) (bv_ 16 511) (bv_ 16 8639) rfl rfl rfl rfl (two_of HT_.out (by kernel_rfl)) (by decide) (by decide) (fun K hK => ?_) (fun K hK => ?_)
    ·skip
     refine goes_ Try.func64 (by kernel_rfl) rfl #[.int .i64 a0, .int .i64 a2_2] (by rfl) rfl rfl (by (try simp only [List.map_toArray, List.map_cons, List.map_nil]); first | done | rfl | (simp only [List.length_drop, List.length_take]; rfl)) ?_
     with_reducible refine (spec_l01Power.calls k a0 a2_2 t162 _ A10.out).mono ?_
     rintro e w' ⟨rfl, ⟨nd, rfl⟩⟩
     refine ⟨_, rfl, ?_⟩
     refine hK.out _ _ ⟨(blk_cell BK161.out 0).trans rfl, (blk_cell BK161.out 1).trans rfl, (blk_cell BK161.out 2).trans rfl, (blk_cell BK160.out 0).trans rfl, (blk_cell BK160.out 1).trans rfl, (blk_cell BK160.out 2).trans rfl⟩ (fun hHeld => ?_)
     clear hK K
     refine norm_ (a' := ?_) ?_ ?_
     rotate_left
     ·show Act.put _ (some 21) _ = _
      simp only [Act.put, lstS, lstZ, lstC, i64_w, i32_w]
      rfl
     refine two_ (i := 9) (j := 13) (Ni := some 24) (Nj := some 7) (bv_ 16 1023) (bv_ 16 8703) rfl rfl rfl rfl (two_of HT_.out (by kernel_rfl)) (by decide) (by decide) (fun K hK => ?_) (fun K hK => ?_)
     ·skip
      refine goes_ Try.func80 (by kernel_rfl) rfl #[.int .i64 a0, .int .i64 a2_1, .int .i64 t162, .int .i64 a1_0] (by rfl) rfl rfl (by (try simp only [List.map_toArray, List.map_cons, List.map_nil]); first | done | rfl | (simp only [List.length_drop, List.length_take]; rfl)) ?_
      with_reducible refine (spec_l01Of.calls k a0 a2_1 t162 a1_0 t163 t164 t165 false _ A11.out).mono ?_
      rintro e w35 ⟨rfl, hb⟩
      refine ⟨_, rfl, ?_⟩
      replace BK160 := bb_ BK160 hb
      replace BK161 := bb_ BK161 hb
      replace HB := bt_ HB hb
      (try clear hb)
      (try clear hb2)
      (try clear hk)
      (try clear hi)
      refine hK.out _ _ ⟨(blk_cell BK161.out 0).trans rfl, (blk_cell BK161.out 1).trans rfl, (blk_cell BK161.out 2).trans rfl, (blk_cell BK160.out 0).trans rfl, (blk_cell BK160.out 1).trans rfl, (blk_cell BK160.out 2).trans rfl⟩ (fun hHeld => ?_)
      clear hK K
      refine norm_ (a' := ?_) ?_ ?_
      rotate_left
      ·show Act.put _ (some 24) _ = _
       simp only [Act.put, lstS, lstZ, lstC, i64_w, i32_w]
       rfl
      refine pu_ HT_ 10 (some 14) (bv_ 16 2047) ?_
      refine pu_ HT_ 11 (some 25) (bv_ 16 4095) ?_
      refine pu_ HT_ 12 (some 26) (bv_ 16 8191) ?_
      refine one_ (i := 13) (N := some 7) (bv_ 16 16383) rfl rfl (one_of HT_.out (by kernel_rfl)) (by decide) (fun K hK => ?_)
      refine box_step ?hg (N := 7) ?hd (cs := #[.int .i64 0, .int .i64 0, .int .i64 0]) (t := 30) ?hr ?_; (case hd => rfl); (case hg => rfl); (case hr => first | (go_simp; done) | (go_simp; rfl))
      intro gb167 hg w36 hbox hb
      have BK167 := Aside0.mk (hbox)
      have GW167 := bs_ HB hg
      have GE167 := bs_ HB hg
      have NB160_167 := bm_ BK160 hg
      have NB167_160 := bn_ BK160 hg
      have NB161_167 := bm_ BK161 hg
      have NB167_161 := bn_ BK161 hg
      replace BK160 := bb_ BK160 hb
      replace BK161 := bb_ BK161 hb
      replace HB := bt_ HB hb
      clear hb hbox hg
      refine hK.out _ _ ⟨(blk_cell BK161.out 0).trans rfl, (blk_cell BK161.out 1).trans rfl, (blk_cell BK161.out 2).trans rfl, (blk_cell BK160.out 0).trans rfl, (blk_cell BK160.out 1).trans rfl, (blk_cell BK160.out 2).trans rfl⟩ (fun hHeld => ?_)
      clear hK K
      refine norm_ (a' := ?_) ?_ ?_
      rotate_left
      ·show Act.put _ (some 7) _ = _
       simp only [Act.put, lstS, lstZ, lstC, i64_w, i32_w]
       rfl
      exact norm_ (by simp only [putAll, Act.put, lstS, lstZ, lstC]) (hCont (gb167) _ ⟨hHeld, (bl_ BK160).out, (bl_ BK161).out, (bl_ BK167).out, GW167.out, GE167.out, NB160_167.out, NB167_160.out, NB161_167.out, NB167_161.out, (bw_ HB).out⟩)
     ·skip
      refine box_step ?hg (N := 7) ?hd (cs := #[.int .i64 0, .int .i64 0, .int .i64 0]) (t := 30) ?hr ?_; (case hd => rfl); (case hg => rfl); (case hr => first | (go_simp; done) | (go_simp; rfl))
      intro gb167 hg w35 hbox hb
      have BK167 := Aside0.mk (hbox)
      have GW167 := bs_ HB hg
      have GE167 := bs_ HB hg
      have NB160_167 := bm_ BK160 hg
      have NB167_160 := bn_ BK160 hg
      have NB161_167 := bm_ BK161 hg
      have NB167_161 := bn_ BK161 hg
      replace BK160 := bb_ BK160 hb
      replace BK161 := bb_ BK161 hb
      replace HB := bt_ HB hb
      clear hb hbox hg
      refine hK.out _ _ ⟨(blk_cell BK161.out 0).trans rfl, (blk_cell BK161.out 1).trans rfl, (blk_cell BK161.out 2).trans rfl, (blk_cell BK160.out 0).trans rfl, (blk_cell BK160.out 1).trans rfl, (blk_cell BK160.out 2).trans rfl⟩ (fun hHeld => ?_)
      clear hK K
      refine norm_ (a' := ?_) ?_ ?_
      rotate_left
      ·show Act.put _ (some 7) _ = _
       simp only [Act.put, lstS, lstZ, lstC, i64_w, i32_w]
       rfl
      refine one_ (i := 9) (N := some 24) (bv_ 16 9215) rfl rfl (one_of HT_.out (by kernel_rfl)) (by decide) (fun K hK => ?_)
      refine goes_ Try.func80 (by kernel_rfl) rfl #[.int .i64 a0, .int .i64 a2_1, .int .i64 t162, .int .i64 a1_0] (by rfl) rfl rfl (by (try simp only [List.map_toArray, List.map_cons, List.map_nil]); first | done | rfl | (simp only [List.length_drop, List.length_take]; rfl)) ?_
      with_reducible refine (spec_l01Of.calls k a0 a2_1 t162 a1_0 t163 t164 t165 false _ A11.out).mono ?_
      rintro e w36 ⟨rfl, hb⟩
      refine ⟨_, rfl, ?_⟩
      replace BK160 := bb_ BK160 hb
      replace BK161 := bb_ BK161 hb
      replace BK167 := bb_ BK167 hb
      replace HB := bt_ HB hb
      (try clear hb)
      (try clear hb2)
      (try clear hk)
      (try clear hi)
      refine hK.out _ _ ⟨(blk_cell BK161.out 0).trans rfl, (blk_cell BK161.out 1).trans rfl, (blk_cell BK161.out 2).trans rfl, (blk_cell BK160.out 0).trans rfl, (blk_cell BK160.out 1).trans rfl, (blk_cell BK160.out 2).trans rfl⟩ (fun hHeld => ?_)
      clear hK K
      refine norm_ (a' := ?_) ?_ ?_
      rotate_left
      ·show Act.put _ (some 24) _ = _
       simp only [Act.put, lstS, lstZ, lstC, i64_w, i32_w]
       rfl
      refine pu_ HT_ 10 (some 14) (bv_ 16 10239) ?_
      refine pu_ HT_ 11 (some 25) (bv_ 16 12287) ?_
      refine pu_ HT_ 12 (some 26) (bv_ 16 16383) ?_
      exact norm_ (by simp only [putAll, Act.put, lstS, lstZ, lstC]) (hCont (gb167) _ ⟨hHeld, (bl_ BK160).out, (bl_ BK161).out, (bl_ BK167).out, GW167.out, GE167.out, NB160_167.out, NB167_160.out, NB161_167.out, NB167_161.out, (bw_ HB).out⟩)
    ·skip
     refine box_step ?hg (N := 7) ?hd (cs := #[.int .i64 0, .int .i64 0, .int .i64 0]) (t := 30) ?hr ?_; (case hd => rfl); (case hg => rfl); (case hr => first | (go_simp; done) | (go_simp; rfl))
     intro gb167 hg w35 hbox hb
     have BK167 := Aside0.mk (hbox)
     have GW167 := bs_ HB hg
     have GE167 := bs_ HB hg
     have NB160_167 := bm_ BK160 hg
     have NB167_160 := bn_ BK160 hg
     have NB161_167 := bm_ BK161 hg
     have NB167_161 := bn_ BK161 hg
     replace BK160 := bb_ BK160 hb
     replace BK161 := bb_ BK161 hb
     replace HB := bt_ HB hb
     clear hb hbox hg
     refine hK.out _ _ ⟨(blk_cell BK161.out 0).trans rfl, (blk_cell BK161.out 1).trans rfl, (blk_cell BK161.out 2).trans rfl, (blk_cell BK160.out 0).trans rfl, (blk_cell BK160.out 1).trans rfl, (blk_cell BK160.out 2).trans rfl⟩ (fun hHeld => ?_)
     clear hK K
     refine norm_ (a' := ?_) ?_ ?_
     rotate_left
     ·show Act.put _ (some 7) _ = _
      simp only [Act.put, lstS, lstZ, lstC, i64_w, i32_w]
      rfl
     refine one_ (i := 6) (N := some 21) (bv_ 16 8703) rfl rfl (one_of HT_.out (by kernel_rfl)) (by decide) (fun K hK => ?_)
     refine goes_ Try.func64 (by kernel_rfl) rfl #[.int .i64 a0, .int .i64 a2_2] (by rfl) rfl rfl (by (try simp only [List.map_toArray, List.map_cons, List.map_nil]); first | done | rfl | (simp only [List.length_drop, List.length_take]; rfl)) ?_
     with_reducible refine (spec_l01Power.calls k a0 a2_2 t162 _ A10.out).mono ?_
     rintro e w' ⟨rfl, ⟨nd, rfl⟩⟩
     refine ⟨_, rfl, ?_⟩
     refine hK.out _ _ ⟨(blk_cell BK161.out 0).trans rfl, (blk_cell BK161.out 1).trans rfl, (blk_cell BK161.out 2).trans rfl, (blk_cell BK160.out 0).trans rfl, (blk_cell BK160.out 1).trans rfl, (blk_cell BK160.out 2).trans rfl⟩ (fun hHeld => ?_)
     clear hK K
     refine norm_ (a' := ?_) ?_ ?_
     rotate_left
     ·show Act.put _ (some 21) _ = _
      simp only [Act.put, lstS, lstZ, lstC, i64_w, i32_w]
      rfl
     refine one_ (i := 9) (N := some 24) (bv_ 16 9215) rfl rfl (one_of HT_.out (by kernel_rfl)) (by decide) (fun K hK => ?_)
     refine goes_ Try.func80 (by kernel_rfl) rfl #[.int .i64 a0, .int .i64 a2_1, .int .i64 t162, .int .i64 a1_0] (by rfl) rfl rfl (by (try simp only [List.map_toArray, List.map_cons, List.map_nil]); first | done | rfl | (simp only [List.length_drop, List.length_take]; rfl)) ?_
     with_reducible refine (spec_l01Of.calls k a0 a2_1 t162 a1_0 t163 t164 t165 false _ A11.out).mono ?_
     rintro e w36 ⟨rfl, hb⟩
     refine ⟨_, rfl, ?_⟩
     replace BK160 := bb_ BK160 hb
     replace BK161 := bb_ BK161 hb
     replace BK167 := bb_ BK167 hb
     replace HB := bt_ HB hb
     (try clear hb)
     (try clear hb2)
     (try clear hk)
     (try clear hi)
     refine hK.out _ _ ⟨(blk_cell BK161.out 0).trans rfl, (blk_cell BK161.out 1).trans rfl, (blk_cell BK161.out 2).trans rfl, (blk_cell BK160.out 0).trans rfl, (blk_cell BK160.out 1).trans rfl, (blk_cell BK160.out 2).trans rfl⟩ (fun hHeld => ?_)
     clear hK K
     refine norm_ (a' := ?_) ?_ ?_
     rotate_left
     ·show Act.put _ (some 24) _ = _
      simp only [Act.put, lstS, lstZ, lstC, i64_w, i32_w]
      rfl
     refine pu_ HT_ 10 (some 14) (bv_ 16 10239) ?_
     refine pu_ HT_ 11 (some 25) (bv_ 16 12287) ?_
     refine pu_ HT_ 12 (some 26) (bv_ 16 16383) ?_
     exact norm_ (by simp only [putAll, Act.put, lstS, lstZ, lstC]) (hCont (gb167) _ ⟨hHeld, (bl_ BK160).out, (bl_ BK161).out, (bl_ BK167).out, GW167.out, GE167.out, NB160_167.out, NB167_160.out, NB161_167.out, NB167_161.out, (bw_ HB).out⟩)
   rintro gb167 w37 ⟨hS_, h0_, h1_, h2_, h3_, h4_, h5_, h6_, h7_, h8_, h9_⟩
   have n0_ : Aside0 (w37.heap[gb160]? = some (.cells #[.int .i64 a1_0, .int .i64 a1_1, .int .i64 a1_2] 30 (0, 0))) := ⟨h0_⟩
   have n1_ : Aside0 (w37.heap[gb161]? = some (.cells #[.int .i64 a2_0, .int .i64 a2_1, .int .i64 a2_2] 30 (0, 0))) := ⟨h1_⟩
   have n2_ : Aside0 (w37.heap[gb167]? = some (.cells #[.int .i64 0, .int .i64 0, .int .i64 0] 30 (0, 0))) := ⟨h2_⟩
   have n3_ : Aside0 (w.heap.size ≤ gb167) := ⟨h3_⟩
   have n4_ : Aside0 (w.heap.size ≤ gb167) := ⟨h4_⟩
   have n5_ : Aside0 (gb160 ≠ gb167) := ⟨h5_⟩
   have n6_ : Aside0 (gb167 ≠ gb160) := ⟨h6_⟩
   have n7_ : Aside0 (gb161 ≠ gb167) := ⟨h7_⟩
   have n8_ : Aside0 (gb167 ≠ gb161) := ⟨h8_⟩
   have n9_ : Aside0 (Below w.heap.size w w37) := ⟨h9_⟩
   clear BK160
   clear BK161
   clear HB
   clear h0_ h1_ h2_ h3_ h4_ h5_ h6_ h7_ h8_ h9_
   have BK160 := n0_
   have BK161 := n1_
   have BK167 := n2_
   have GW167 := n3_
   have GE167 := n4_
   have NB160_167 := n5_
   have NB167_160 := n6_
   have NB161_167 := n7_
   have NB167_161 := n8_
   have HB := n9_
   clear n0_ n1_ n2_ n3_ n4_ n5_ n6_ n7_ n8_ n9_
   have hHeld : w37.cell? ⟨gb161, 0, none⟩ = some (.int .i64 a2_0) ∧ w37.cell? ⟨gb161, 1, none⟩ = some (.int .i64 a2_1) ∧ w37.cell? ⟨gb161, 2, none⟩ = some (.int .i64 a2_2) ∧ w37.cell? ⟨gb160, 0, none⟩ = some (.int .i64 a1_0) ∧ w37.cell? ⟨gb160, 1, none⟩ = some (.int .i64 a1_1) ∧ w37.cell? ⟨gb160, 2, none⟩ = some (.int .i64 a1_2) := hS_
   refine norm_ (a' := ?_) ?_ ?_
   rotate_left
   ·simp only [putAll, Act.put, lstS, lstZ, lstC]
    rfl
   refine one_ (i := 14) (N := none) (bv_ 16 32767) rfl rfl (one_of HT_.out (by kernel_rfl)) (by decide) (fun K hK => ?_)
   have hs38 : w37.cell? ⟨gb167, 0, none⟩ = some (.int .i64 0) := (blk_cell BK167.out 0).trans rfl
   have hfs38 := blk_frozen BK167.out 0
   have hns38_0 := NB160_167.out
   have hns38_1 := NB161_167.out
   have hms38_0 := NB167_160.out
   have hms38_1 := NB167_161.out
   have hs39 : w37.cell? ⟨gb167, 1, none⟩ = some (.int .i64 0) := (blk_cell BK167.out 1).trans rfl
   have hfs39 := blk_frozen BK167.out 1
   have hns39_0 := NB160_167.out
   have hns39_1 := NB161_167.out
   have hms39_0 := NB167_160.out
   have hms39_1 := NB167_161.out
   have hs40 : w37.cell? ⟨gb167, 2, none⟩ = some (.int .i64 0) := (blk_cell BK167.out 2).trans rfl
   have hfs40 := blk_frozen BK167.out 2
   have hns40_0 := NB160_167.out
   have hns40_1 := NB161_167.out
   have hms40_0 := NB167_160.out
   have hms40_1 := NB167_161.out
   refine skip_ (w1 := ?_) (by rfl) rfl ?_ ?_
   rotate_left
   ·go_simp
    rfl
   refine hK.out _ _ ⟨((cell_far (p := ⟨gb167, _, none⟩) NB161_167.out _).trans (((cell_far (p := ⟨gb167, _, none⟩) NB161_167.out _).trans (((cell_far (p := ⟨gb167, _, none⟩) NB161_167.out _).trans (hHeld.1)))))), ((cell_far (p := ⟨gb167, _, none⟩) NB161_167.out _).trans (((cell_far (p := ⟨gb167, _, none⟩) NB161_167.out _).trans (((cell_far (p := ⟨gb167, _, none⟩) NB161_167.out _).trans (hHeld.2.1)))))), ((cell_far (p := ⟨gb167, _, none⟩) NB161_167.out _).trans (((cell_far (p := ⟨gb167, _, none⟩) NB161_167.out _).trans (((cell_far (p := ⟨gb167, _, none⟩) NB161_167.out _).trans (hHeld.2.2.1)))))), ((cell_far (p := ⟨gb167, _, none⟩) NB160_167.out _).trans (((cell_far (p := ⟨gb167, _, none⟩) NB160_167.out _).trans (((cell_far (p := ⟨gb167, _, none⟩) NB160_167.out _).trans (hHeld.2.2.2.1)))))), ((cell_far (p := ⟨gb167, _, none⟩) NB160_167.out _).trans (((cell_far (p := ⟨gb167, _, none⟩) NB160_167.out _).trans (((cell_far (p := ⟨gb167, _, none⟩) NB160_167.out _).trans (hHeld.2.2.2.2.1)))))), ((cell_far (p := ⟨gb167, _, none⟩) NB160_167.out _).trans (((cell_far (p := ⟨gb167, _, none⟩) NB160_167.out _).trans (((cell_far (p := ⟨gb167, _, none⟩) NB160_167.out _).trans (hHeld.2.2.2.2.2))))))⟩ (fun hHeld => ?_)
   clear hK K
   refine pu_ HT_ 15 (some 8) (bv_ 16 65535) ?_
   refine done_ (done_of HT_.out (by kernel_rfl)) ?_
   try go_wp2
   go_ret
   exact ⟨by first | rfl | (simp [errW_none, errW_some] <;> rfl) | (simp [*, errW_none, errW_some] <;> rfl), by repeat (first | (with_reducible first | exact HB.out | apply below_alloc | apply pw_below_drewN | apply below_drew1 | refine below_set ?_ GE160.out | refine below_set ?_ GE161.out | refine below_set ?_ GE167.out) | exact HB.out)⟩
end Go.Proofs.Ytoiailmmgfokjaa.QC
