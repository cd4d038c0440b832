-- Written by a program of this session out of Lean's own print of the loaded program; Lean checks it.
import Derived.Test.YtojpcbbmbnmchaaQCx4
import Derived.Test.YtojpcbbmbnmchaaQCx9
import Derived.Test.YtojpcbbmbnmchaaQCx65
import Derived.Test.YtojpcbbmbnmchaaQCx73
namespace Go.Proofs.Ytojpcbbmbnmchaa.QC
open Go.RowKit Go.Proofs.YtojpcbbmbnmchaaW.PrintWords Go.Proofs.YtojpcbbmbnmchaaW.PrintLast Go.Proofs.YtojpcbbmbnmchaaW.PrintMore
attribute [local go_sem] isSome_setCell max2_int min2_int max_two min_two max_three min_three max_four min_four   -- for this text's walks alone
set_option linter.unusedVariables false
set_option linter.unusedSimpArgs false

/-! ### laws_FnExactStepsOfMatrix: function 6 -/
def laws_FnExactStepsOfMatrix.f (k : Nat) (a0 : Int) (a1_0 : Int) (a1_1 : Int) (a1_2 : Int) (a1_3 : Int) : Option (Bool) := (laws_toMatrix.f k a1_0 a1_1 a1_2 a1_3).bind fun bt570 => ((spec_StepsOfMatrix.f k a0 bt570.1 bt570.2.1 bt570.2.2.1 bt570.2.2.2).bind fun bt574 => ((laws_toMatrix.f k a1_0 a1_1 a1_2 a1_3).bind fun bt576 => ((impl_StepsOfMatrix.f k a0 bt576.1 bt576.2.1 bt576.2.2.1 bt576.2.2.2).bind fun bt580 => (if bt580.1.toList = bt574.1.toList then (if bt580.2 = bt574.2 then (some true) else (none)) else (none)))))
set_option maxHeartbeats 8000000 in
set_option maxRecDepth 100000 in
theorem laws_FnExactStepsOfMatrix.calls (k : Nat) (a0 : Int) (a1_0 : Int) (a1_1 : Int) (a1_2 : Int) (a1_3 : Int) (r : Bool) (w : World) (h : laws_FnExactStepsOfMatrix.f k a0 a1_0 a1_1 a1_2 a1_3 = some r) :
  Calls Try.prog 6 #[.int .i64 a0, .agg #[.int .i64 a1_0, .int .i64 a1_1, .int .i64 a1_2, .int .i64 a1_3]] w fun e w' => e = .returned (.bool r) ∧ Below w.heap.size w w' := by
 have hu23 := Try.underlying23
 have HB := Aside0.mk (Below.refl w.heap.size w)
 have H : ((laws_toMatrix.f k a1_0 a1_1 a1_2 a1_3).bind fun bt570 => ((spec_StepsOfMatrix.f k a0 bt570.1 bt570.2.1 bt570.2.2.1 bt570.2.2.2).bind fun bt574 => ((laws_toMatrix.f k a1_0 a1_1 a1_2 a1_3).bind fun bt576 => ((impl_StepsOfMatrix.f k a0 bt576.1 bt576.2.1 bt576.2.2.1 bt576.2.2.2).bind fun bt580 => (if bt580.1.toList = bt574.1.toList then (if bt580.2 = bt574.2 then (some true) else (none)) else (none)))))) = some r := h
 clear h
 replace H := Option.bind_eq_some_iff.mp H
 obtain ⟨⟨t570, t571, t572, t573⟩, A30, H⟩ := H
 have A3 := Aside0.mk A30
 clear A30
 replace H := Option.bind_eq_some_iff.mp H
 obtain ⟨⟨t574, t575⟩, A40, H⟩ := H
 have A4 := Aside0.mk A40
 clear A40
 replace H := Option.bind_eq_some_iff.mp H
 obtain ⟨⟨t576, t577, t578, t579⟩, A50, H⟩ := H
 have A5 := Aside0.mk A50
 clear A50
 replace H := Option.bind_eq_some_iff.mp H
 obtain ⟨⟨t580, t581⟩, A60, H⟩ := H
 have A6 := Aside0.mk A60
 clear A60
 by_cases c7 : t580.toList = t574.toList
 ·rw [if_pos c7] at H
  have c7b0 : (t580.toList == t574.toList) = true := beq_iff_eq.mpr c7
  have c7b1 : (t580.toList != t574.toList) = false := bne_eq_false_iff_eq.mpr c7
  clear c7
  by_cases c8 : t581 = t575
  ·rw [if_pos c8] at H
   have c8b0 : (t581 == t575) = true := beq_iff_eq.mpr c8
   have c8b1 : (t581 != t575) = false := bne_eq_false_iff_eq.mpr c8
   clear c8
   obtain rfl := Option.some.inj H
   go_enter Try.func6, Try.ntmps6
   go_wp2_with (first | ((with_reducible refine gate_dst (N := 3) rfl ?_); refine bx_ 3 #[.int .i64 a1_0, .int .i64 a1_1, .int .i64 a1_2, .int .i64 a1_3] 23 ?_; intro gb569 hg w9 hbox hb; have BK569 := Aside0.mk (hbox); have GW569 := bs_ HB hg; have GE569 := bs_ HB hg; replace HB := bt_ HB hb; clear hb hbox hg; have hcz10_0 : w9.cell? ⟨gb569, 0, none⟩ = some (.int .i64 a1_0) := (blk_cell BK569.out 0).trans rfl; have hcz10_1 : w9.cell? ⟨gb569, 1, none⟩ = some (.int .i64 a1_1) := (blk_cell BK569.out 1).trans rfl; have hcz10_2 : w9.cell? ⟨gb569, 2, none⟩ = some (.int .i64 a1_2) := (blk_cell BK569.out 2).trans rfl; have hcz10_3 : w9.cell? ⟨gb569, 3, none⟩ = some (.int .i64 a1_3) := (blk_cell BK569.out 3).trans rfl; have hfz10_0 := blk_frozen BK569.out 0; have hfz10_1 := blk_frozen BK569.out 1; have hfz10_2 := blk_frozen BK569.out 2; have hfz10_3 := blk_frozen BK569.out 3) | ((with_reducible refine gate_callee (f := 10) rfl ?_); refine goesL_ (some 12) rfl rfl Try.func10 (by kernel_rfl) rfl #[.agg #[.int .i64 a1_0, .int .i64 a1_1, .int .i64 a1_2, .int .i64 a1_3]] rfl (by (try simp only [List.map_toArray, List.map_cons, List.map_nil]); first | done | rfl | (simp only [List.length_drop, List.length_take]; rfl)) ?_; (with_reducible refine (laws_toMatrix.calls k a1_0 a1_1 a1_2 a1_3 t570 t571 t572 t573 _ A3.out).mono ?_); rintro e w11 ⟨rfl, hb⟩; refine ⟨_, rfl, ?_⟩; replace BK569 := bb_ BK569 hb; replace HB := bt_ HB hb; (try clear hb); (try clear hb2); (try clear hk); (try clear hi)) | ((with_reducible refine gate_callee (f := 19) rfl ?_); refine goesL_ (some 13) rfl rfl Try.func19 (by kernel_rfl) rfl #[.int .i64 a0, .agg #[.int .i64 t570, .int .i64 t571, .int .i64 t572, .int .i64 t573]] rfl (by (try simp only [List.map_toArray, List.map_cons, List.map_nil]); first | done | rfl | (simp only [List.length_drop, List.length_take]; rfl)) ?_; (with_reducible refine (spec_StepsOfMatrix.calls k a0 t570 t571 t572 t573 t574 t575 _ A4.out).mono ?_); rintro e w12 ⟨rfl, hb⟩; refine ⟨_, rfl, ?_⟩; replace BK569 := bb_ BK569 hb; replace HB := bt_ HB hb; (try clear hb); (try clear hb2); (try clear hk); (try clear hi); have hcz13_0 : w12.cell? ⟨gb569, 0, none⟩ = some (.int .i64 a1_0) := (blk_cell BK569.out 0).trans rfl; have hcz13_1 : w12.cell? ⟨gb569, 1, none⟩ = some (.int .i64 a1_1) := (blk_cell BK569.out 1).trans rfl; have hcz13_2 : w12.cell? ⟨gb569, 2, none⟩ = some (.int .i64 a1_2) := (blk_cell BK569.out 2).trans rfl; have hcz13_3 : w12.cell? ⟨gb569, 3, none⟩ = some (.int .i64 a1_3) := (blk_cell BK569.out 3).trans rfl; have hfz13_0 := blk_frozen BK569.out 0; have hfz13_1 := blk_frozen BK569.out 1; have hfz13_2 := blk_frozen BK569.out 2; have hfz13_3 := blk_frozen BK569.out 3) | ((with_reducible refine gate_callee (f := 10) rfl ?_); refine goesL_ (some 19) rfl rfl Try.func10 (by kernel_rfl) rfl #[.agg #[.int .i64 a1_0, .int .i64 a1_1, .int .i64 a1_2, .int .i64 a1_3]] rfl (by (try simp only [List.map_toArray, List.map_cons, List.map_nil]); first | done | rfl | (simp only [List.length_drop, List.length_take]; rfl)) ?_; (with_reducible refine (laws_toMatrix.calls k a1_0 a1_1 a1_2 a1_3 t576 t577 t578 t579 _ A5.out).mono ?_); rintro e w14 ⟨rfl, hb⟩; refine ⟨_, rfl, ?_⟩; replace BK569 := bb_ BK569 hb; replace HB := bt_ HB hb; (try clear hb); (try clear hb2); (try clear hk); (try clear hi)) | ((with_reducible refine gate_callee (f := 20) rfl ?_); refine goesL_ (some 20) rfl rfl Try.func20 (by kernel_rfl) rfl #[.int .i64 a0, .agg #[.int .i64 t576, .int .i64 t577, .int .i64 t578, .int .i64 t579]] rfl (by (try simp only [List.map_toArray, List.map_cons, List.map_nil]); first | done | rfl | (simp only [List.length_drop, List.length_take]; rfl)) ?_; (with_reducible refine (impl_StepsOfMatrix.calls k a0 t576 t577 t578 t579 t580 t581 _ A6.out).mono ?_); rintro e w15 ⟨rfl, hb⟩; refine ⟨_, rfl, ?_⟩; replace BK569 := bb_ BK569 hb; replace HB := bt_ HB hb; (try clear hb); (try clear hb2); (try clear hk); (try clear hi)))
   go_ret
   exact ⟨by first | rfl | (simp [errW_none, errW_some] <;> rfl) | (simp [*, errW_none, errW_some] <;> rfl), by repeat (first | (with_reducible first | exact HB.out | apply below_alloc | apply pw_below_drewN | apply below_drew1 | refine below_set ?_ GE569.out) | exact HB.out)⟩
  ·rw [if_neg c8] at H
   exact absurd H (by simp)
 ·rw [if_neg c7] at H
  exact absurd H (by simp)
def laws_FnExactStepsOfMatrix.Pure : Prop := ∀ (a0 : Int) (a1_0 : Int) (a1_1 : Int) (a1_2 : Int) (a1_3 : Int), (Lit.int .i64 a0).wf = true → (Lit.int .i64 a1_0).wf = true → (Lit.int .i64 a1_1).wf = true → (Lit.int .i64 a1_2).wf = true → (Lit.int .i64 a1_3).wf = true → ∃ k, laws_FnExactStepsOfMatrix.f k a0 a1_0 a1_1 a1_2 a1_3 = some true
end Go.Proofs.Ytojpcbbmbnmchaa.QC
