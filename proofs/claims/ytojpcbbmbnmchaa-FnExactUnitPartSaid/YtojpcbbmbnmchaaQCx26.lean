-- Written by a program of this session out of Lean's own print of the loaded program; Lean checks it.
import Derived.Test.YtojpcbbmbnmchaaQCx4
import Derived.Test.YtojpcbbmbnmchaaQCx15
import Derived.Test.YtojpcbbmbnmchaaQCx23
import Derived.Test.YtojpcbbmbnmchaaQCx24
import Derived.Test.YtojpcbbmbnmchaaQCx53
namespace Go.Proofs.Ytojpcbbmbnmchaa.QC
open Go.RowKit Go.Proofs.YtojpcbbmbnmchaaW.PrintWords Go.Proofs.YtojpcbbmbnmchaaW.PrintLast Go.Proofs.YtojpcbbmbnmchaaW.PrintMore
attribute [local go_sem] isSome_setCell max2_int min2_int max_two min_two max_three min_three max_four min_four   -- for this text's walks alone
set_option linter.unusedVariables false
set_option linter.unusedSimpArgs false

/-! ### spec_UnitPart: function 17 -/
def spec_UnitPart.f (k : Nat) (a0 : Int) (a1_0 : Int) (a1_1 : Int) (a1_2 : Int) (a1_3 : Int) : Option (Int × Int × Int × Int × Int) := (spec_l04Code.f k a0 a1_0 a1_1 a1_2 a1_3 ([] : List (S28))).bind fun t221 => (if t221 = 0 then ((spec_l10Triangular.f k a0 a1_0 a1_1 a1_2 a1_3).bind fun bt222 => (if bt222.2.2.2.2 = true then ((spec_l04Inverse.f k bt222.1 bt222.2.1 bt222.2.2.1 bt222.2.2.2.1).bind fun bt228 => ((spec_l04Times.f k bt228.1 bt228.2.1 bt228.2.2.1 bt228.2.2.2 a1_0 a1_1 a1_2 a1_3).bind fun bt232 => (if bt232.2.2.2.2 = true then (some (bt232.1, bt232.2.1, bt232.2.2.1, bt232.2.2.2.1, 0)) else (some (0, 0, 0, 0, 3))))) else (some (0, 0, 0, 0, 3)))) else (some (0, 0, 0, 0, t221)))
def spec_UnitPart.T7 : Bool × List (List Nat × List Nat) := (true, [([], []), ([0], [0]), ([], []), ([1, 2, 1], [1, 2]), ([3], [3]), ([4], [4]), ([4], [4]), ([], []), ([7, 5, 3, 0, 1, 2, 3, 4, 5, 7], [5, 7]), ([6, 8, 0, 1, 2, 3, 4, 5, 6, 7, 8], [6])])
def spec_UnitPart.B7 : List Nat := [0, 1, 0, 7, 15, 31, 31, 0, 191, 511]
theorem spec_UnitPart.tab7 : rtab .any (opsOf Try.f17 7) = spec_UnitPart.T7 := by kernel_rfl
theorem spec_UnitPart.bits7 : waitsOk spec_UnitPart.T7.2 spec_UnitPart.B7 = true := by kernel_rfl
set_option maxHeartbeats 8000000 in
set_option maxRecDepth 100000 in
theorem spec_UnitPart.calls (k : Nat) (a0 : Int) (a1_0 : Int) (a1_1 : Int) (a1_2 : Int) (a1_3 : Int) (r1 : Int) (r2 : Int) (r3 : Int) (r4 : Int) (r5 : Int) (w : World) (h : spec_UnitPart.f k a0 a1_0 a1_1 a1_2 a1_3 = some (r1, r2, r3, r4, r5)) :
  Calls Try.prog 17 #[.int .i64 a0, .agg #[.int .i64 a1_0, .int .i64 a1_1, .int .i64 a1_2, .int .i64 a1_3]] w fun e w' => e = .returned (.tuple #[.agg #[.int .i64 r1, .int .i64 r2, .int .i64 r3, .int .i64 r4], .int .i64 r5]) ∧ Below w.heap.size w w' := by
 have hu33 := Try.underlying33
 have HB := Aside0.mk (Below.refl w.heap.size w)
 have H : ((spec_l04Code.f k a0 a1_0 a1_1 a1_2 a1_3 ([] : List (S28))).bind fun t221 => (if t221 = 0 then ((spec_l10Triangular.f k a0 a1_0 a1_1 a1_2 a1_3).bind fun bt222 => (if bt222.2.2.2.2 = true then ((spec_l04Inverse.f k bt222.1 bt222.2.1 bt222.2.2.1 bt222.2.2.2.1).bind fun bt228 => ((spec_l04Times.f k bt228.1 bt228.2.1 bt228.2.2.1 bt228.2.2.2 a1_0 a1_1 a1_2 a1_3).bind fun bt232 => (if bt232.2.2.2.2 = true then (some (bt232.1, bt232.2.1, bt232.2.2.1, bt232.2.2.2.1, 0)) else (some (0, 0, 0, 0, 3))))) else (some (0, 0, 0, 0, 3)))) else (some (0, 0, 0, 0, t221)))) = some (r1, r2, r3, r4, r5) := h
 clear h
 replace H := Option.bind_eq_some_iff.mp H
 obtain ⟨t221, A30, H⟩ := H
 have A3 := Aside0.mk A30
 clear A30
 by_cases c4 : t221 = 0
 ·rw [if_pos c4] at H
  have c4b0 : (t221 == 0) = true := beq_iff_eq.mpr c4
  have c4b1 : (t221 != 0) = false := bne_eq_false_iff_eq.mpr c4
  clear c4
  replace H := Option.bind_eq_some_iff.mp H
  obtain ⟨⟨t222, t223, t224, t225, t226⟩, A50, H⟩ := H
  have A5 := Aside0.mk A50
  clear A50
  by_cases c6 : t226 = true
  ·subst c6
   have H1 : ((spec_l04Inverse.f k t222 t223 t224 t225).bind fun bt228 => ((spec_l04Times.f k bt228.1 bt228.2.1 bt228.2.2.1 bt228.2.2.2 a1_0 a1_1 a1_2 a1_3).bind fun bt232 => (if bt232.2.2.2.2 = true then (some (bt232.1, bt232.2.1, bt232.2.2.1, bt232.2.2.2.1, 0)) else (some (0, 0, 0, 0, 3))))) = some (r1, r2, r3, r4, r5) := by rw [if_pos rfl] at H; exact H
   clear H
   have H := H1
   clear H1
   replace H := Option.bind_eq_some_iff.mp H
   obtain ⟨⟨t228, t229, t230, t231⟩, A70, H⟩ := H
   have A7 := Aside0.mk A70
   clear A70
   replace H := Option.bind_eq_some_iff.mp H
   obtain ⟨⟨t232, t233, t234, t235, t236⟩, A80, H⟩ := H
   have A8 := Aside0.mk A80
   clear A80
   by_cases c9 : t236 = true
   ·subst c9
    have H1 : (some (t232, t233, t234, t235, 0)) = some (r1, r2, r3, r4, r5) := by rw [if_pos rfl] at H; exact H
    clear H
    have H := H1
    clear H1
    simp only [Option.some.injEq, Prod.mk.injEq] at H
    obtain ⟨rfl, rfl, rfl, rfl, rfl⟩ := H
    go_enter Try.func17, Try.ntmps17
    try go_wp2_with (first | ((with_reducible refine gate_dst (N := 3) rfl ?_); refine bx_ 3 #[.int .i64 a1_0, .int .i64 a1_1, .int .i64 a1_2, .int .i64 a1_3] 33 ?_; intro gb219 hg w10 hbox hb; have BK219 := Aside0.mk (hbox); have GW219 := bs_ HB hg; have GE219 := bs_ HB hg; replace HB := bt_ HB hb; clear hb hbox hg) | ((with_reducible refine gate_dst (N := 4) rfl ?_); refine bx_ 4 #[.int .i64 0, .int .i64 0, .int .i64 0, .int .i64 0] 33 ?_; intro gb220 hg w11 hbox hb; have BK220 := Aside0.mk (hbox); have GW220 := bs_ HB hg; have GE220 := bs_ HB hg; have NB219_220 := bm_ BK219 hg; have NB220_219 := bn_ BK219 hg; replace BK219 := bb_ BK219 hb; replace HB := bt_ HB hb; clear hb hbox hg; have hnb12 := NB219_220.out; have hnc12 := NB220_219.out; have hcz13_0 : w11.cell? ⟨gb219, 0, none⟩ = some (.int .i64 a1_0) := (blk_cell BK219.out 0).trans rfl; have hcz13_1 : w11.cell? ⟨gb219, 1, none⟩ = some (.int .i64 a1_1) := (blk_cell BK219.out 1).trans rfl; have hcz13_2 : w11.cell? ⟨gb219, 2, none⟩ = some (.int .i64 a1_2) := (blk_cell BK219.out 2).trans rfl; have hcz13_3 : w11.cell? ⟨gb219, 3, none⟩ = some (.int .i64 a1_3) := (blk_cell BK219.out 3).trans rfl; have hfz13_0 := blk_frozen BK219.out 0; have hfz13_1 := blk_frozen BK219.out 1; have hfz13_2 := blk_frozen BK219.out 2; have hfz13_3 := blk_frozen BK219.out 3) | ((with_reducible refine gate_callee (f := 42) rfl ?_); refine goesL_ (some 13) rfl rfl Try.func42 (by kernel_rfl) rfl #[.int .i64 a0, .agg #[.int .i64 a1_0, .int .i64 a1_1, .int .i64 a1_2, .int .i64 a1_3], .slice none 0 0] rfl (by (try simp only [List.map_toArray, List.map_cons, List.map_nil]); first | done | rfl | (simp only [List.length_drop, List.length_take]; rfl)) ?_; (refine (spec_l04Code.calls k a0 a1_0 a1_1 a1_2 a1_3 _ _ ([] : List (S28)) t221 _ ?side1 ?side2 A3.out).mono ?_); (case side1 => exact Kd.C_nil _ _); (case side2 => exact Nat.le_refl _); rintro e w14 ⟨rfl, hb⟩; refine ⟨_, rfl, ?_⟩; replace BK219 := bb_ BK219 hb; replace BK220 := bb_ BK220 hb; replace HB := bt_ HB hb; (try clear hb); (try clear hb2); (try clear hk); (try clear hi); have hcz15_0 : w14.cell? ⟨gb219, 0, none⟩ = some (.int .i64 a1_0) := (blk_cell BK219.out 0).trans rfl; have hcz15_1 : w14.cell? ⟨gb219, 1, none⟩ = some (.int .i64 a1_1) := (blk_cell BK219.out 1).trans rfl; have hcz15_2 : w14.cell? ⟨gb219, 2, none⟩ = some (.int .i64 a1_2) := (blk_cell BK219.out 2).trans rfl; have hcz15_3 : w14.cell? ⟨gb219, 3, none⟩ = some (.int .i64 a1_3) := (blk_cell BK219.out 3).trans rfl; have hfz15_0 := blk_frozen BK219.out 0; have hfz15_1 := blk_frozen BK219.out 1; have hfz15_2 := blk_frozen BK219.out 2; have hfz15_3 := blk_frozen BK219.out 3) | ((with_reducible refine gate_callee (f := 43) rfl ?_); refine goesL_ (some 21) rfl rfl Try.func43 (by kernel_rfl) rfl #[.int .i64 a0, .agg #[.int .i64 a1_0, .int .i64 a1_1, .int .i64 a1_2, .int .i64 a1_3]] rfl (by (try simp only [List.map_toArray, List.map_cons, List.map_nil]); first | done | rfl | (simp only [List.length_drop, List.length_take]; rfl)) ?_; (with_reducible refine (spec_l10Triangular.calls k a0 a1_0 a1_1 a1_2 a1_3 t222 t223 t224 t225 true _ A5.out).mono ?_); rintro e w16 ⟨rfl, hb⟩; refine ⟨_, rfl, ?_⟩; replace BK219 := bb_ BK219 hb; replace BK220 := bb_ BK220 hb; replace HB := bt_ HB hb; (try clear hb); (try clear hb2); (try clear hk); (try clear hi)) | ((with_reducible refine gate_dst (N := 7) rfl ?_); refine bx_ 7 #[.int .i64 0, .int .i64 0, .int .i64 0, .int .i64 0] 33 ?_; intro gb227 hg w17 hbox hb; have BK227 := Aside0.mk (hbox); have GW227 := bs_ HB hg; have GE227 := bs_ HB hg; have NB219_227 := bm_ BK219 hg; have NB227_219 := bn_ BK219 hg; have NB220_227 := bm_ BK220 hg; have NB227_220 := bn_ BK220 hg; replace BK219 := bb_ BK219 hb; replace BK220 := bb_ BK220 hb; replace HB := bt_ HB hb; clear hb hbox hg; have hnb18 := NB227_219.out; have hnc18 := NB219_227.out; have hnb19 := NB227_220.out; have hnc19 := NB220_227.out; have hcz20_0 : w17.cell? ⟨gb227, 0, none⟩ = some (.int .i64 0) := (blk_cell BK227.out 0).trans rfl; have hcz20_1 : w17.cell? ⟨gb227, 1, none⟩ = some (.int .i64 0) := (blk_cell BK227.out 1).trans rfl; have hcz20_2 : w17.cell? ⟨gb227, 2, none⟩ = some (.int .i64 0) := (blk_cell BK227.out 2).trans rfl; have hcz20_3 : w17.cell? ⟨gb227, 3, none⟩ = some (.int .i64 0) := (blk_cell BK227.out 3).trans rfl; have hfz20_0 := blk_frozen BK227.out 0; have hfz20_1 := blk_frozen BK227.out 1; have hfz20_2 := blk_frozen BK227.out 2; have hfz20_3 := blk_frozen BK227.out 3))
    have n0_ : Aside0 (((((w17.setCell ⟨gb227, 0, none⟩ (.int .i64 t222)).setCell ⟨gb227, 1, none⟩ (.int .i64 t223)).setCell ⟨gb227, 2, none⟩ (.int .i64 t224)).setCell ⟨gb227, 3, none⟩ (.int .i64 t225)).heap[gb219]? = some (.cells #[.int .i64 a1_0, .int .i64 a1_1, .int .i64 a1_2, .int .i64 a1_3] 33 (0, 0))) := ⟨by (with_reducible repeat first | apply blk_drewN | apply blk_drew | apply blk_alloc); refine blk_far ?_ NB219_227.out _; (with_reducible repeat first | apply blk_drewN | apply blk_drew | apply blk_alloc); refine blk_far ?_ NB219_227.out _; (with_reducible repeat first | apply blk_drewN | apply blk_drew | apply blk_alloc); refine blk_far ?_ NB219_227.out _; (with_reducible repeat first | apply blk_drewN | apply blk_drew | apply blk_alloc); refine blk_far ?_ NB219_227.out _; (with_reducible repeat first | apply blk_drewN | apply blk_drew | apply blk_alloc); exact BK219.out⟩
    have n1_ : Aside0 (((((w17.setCell ⟨gb227, 0, none⟩ (.int .i64 t222)).setCell ⟨gb227, 1, none⟩ (.int .i64 t223)).setCell ⟨gb227, 2, none⟩ (.int .i64 t224)).setCell ⟨gb227, 3, none⟩ (.int .i64 t225)).heap[gb220]? = some (.cells #[.int .i64 0, .int .i64 0, .int .i64 0, .int .i64 0] 33 (0, 0))) := ⟨by (with_reducible repeat first | apply blk_drewN | apply blk_drew | apply blk_alloc); refine blk_far ?_ NB220_227.out _; (with_reducible repeat first | apply blk_drewN | apply blk_drew | apply blk_alloc); refine blk_far ?_ NB220_227.out _; (with_reducible repeat first | apply blk_drewN | apply blk_drew | apply blk_alloc); refine blk_far ?_ NB220_227.out _; (with_reducible repeat first | apply blk_drewN | apply blk_drew | apply blk_alloc); refine blk_far ?_ NB220_227.out _; (with_reducible repeat first | apply blk_drewN | apply blk_drew | apply blk_alloc); exact BK220.out⟩
    have n2_ : Aside0 (((((w17.setCell ⟨gb227, 0, none⟩ (.int .i64 t222)).setCell ⟨gb227, 1, none⟩ (.int .i64 t223)).setCell ⟨gb227, 2, none⟩ (.int .i64 t224)).setCell ⟨gb227, 3, none⟩ (.int .i64 t225)).heap[gb227]? = some (.cells #[.int .i64 t222, .int .i64 t223, .int .i64 t224, .int .i64 t225] 33 (0, 0))) := ⟨by (with_reducible repeat first | apply blk_drewN | apply blk_drew | apply blk_alloc); refine blk_put (cs := #[.int .i64 t222, .int .i64 t223, .int .i64 t224, .int .i64 0]) ?_ 3 _ rfl; (with_reducible repeat first | apply blk_drewN | apply blk_drew | apply blk_alloc); refine blk_put (cs := #[.int .i64 t222, .int .i64 t223, .int .i64 0, .int .i64 0]) ?_ 2 _ rfl; (with_reducible repeat first | apply blk_drewN | apply blk_drew | apply blk_alloc); refine blk_put (cs := #[.int .i64 t222, .int .i64 0, .int .i64 0, .int .i64 0]) ?_ 1 _ rfl; (with_reducible repeat first | apply blk_drewN | apply blk_drew | apply blk_alloc); refine blk_put (cs := #[.int .i64 0, .int .i64 0, .int .i64 0, .int .i64 0]) ?_ 0 _ rfl; (with_reducible repeat first | apply blk_drewN | apply blk_drew | apply blk_alloc); exact BK227.out⟩
    have n3_ : Aside0 (Below w.heap.size w ((((w17.setCell ⟨gb227, 0, none⟩ (.int .i64 t222)).setCell ⟨gb227, 1, none⟩ (.int .i64 t223)).setCell ⟨gb227, 2, none⟩ (.int .i64 t224)).setCell ⟨gb227, 3, none⟩ (.int .i64 t225))) := bw_ HB
    (try clear BK219)
    (try clear BK220)
    (try clear BK227)
    (try clear HB)
    generalize ((((w17.setCell ⟨gb227, 0, none⟩ (.int .i64 t222)).setCell ⟨gb227, 1, none⟩ (.int .i64 t223)).setCell ⟨gb227, 2, none⟩ (.int .i64 t224)).setCell ⟨gb227, 3, none⟩ (.int .i64 t225)) = w21 at n0_ n1_ n2_ n3_ ⊢
    have BK219 := n0_
    have BK220 := n1_
    have BK227 := n2_
    have HB := n3_
    clear n0_ n1_ n2_ n3_
    replace BK219 := Aside0.mk (blk_drew BK219.out)
    replace BK220 := Aside0.mk (blk_drew BK220.out)
    replace BK227 := Aside0.mk (blk_drew BK227.out)
    replace HB := Aside0.mk (below_drew1 HB.out)
    refine start_ (n := 10) (S := fun w' => w'.cell? ⟨gb227, 0, none⟩ = some (.int .i64 t222) ∧ w'.cell? ⟨gb227, 1, none⟩ = some (.int .i64 t223) ∧ w'.cell? ⟨gb227, 2, none⟩ = some (.int .i64 t224) ∧ w'.cell? ⟨gb227, 3, none⟩ = some (.int .i64 t225) ∧ w'.cell? ⟨gb219, 0, none⟩ = some (.int .i64 a1_0) ∧ w'.cell? ⟨gb219, 1, none⟩ = some (.int .i64 a1_1) ∧ w'.cell? ⟨gb219, 2, none⟩ = some (.int .i64 a1_2) ∧ w'.cell? ⟨gb219, 3, none⟩ = some (.int .i64 a1_3)) (ds := []) #[false, false, false, false, false, false, false, false, false, false] (by kernel_rfl) rfl rfl ⟨(blk_cell BK227.out 0).trans rfl, (blk_cell BK227.out 1).trans rfl, (blk_cell BK227.out 2).trans rfl, (blk_cell BK227.out 3).trans rfl, (blk_cell BK219.out 0).trans rfl, (blk_cell BK219.out 1).trans rfl, (blk_cell BK219.out 2).trans rfl, (blk_cell BK219.out 3).trans rfl⟩ (fun hHeld => ?_); refine with_tabW spec_UnitPart.tab7 spec_UnitPart.bits7 (fun HT_ HW_ => ?_)
    generalize w21.drew = w22 at BK219 BK220 BK227 HB hHeld ⊢
    refine ta_ HT_ HW_ 0 (some 28) #[true, false, false, false, false, false, false, false, false, false] hHeld ?_ (hy := by rintro w' ⟨s0, s1, s2, s3, s4, s5, s6, s7⟩; go_simp; with_reducible rfl)
    refine ta_ HT_ HW_ 2 (some 30) #[true, false, true, false, false, false, false, false, false, false] hHeld ?_ (hy := by rintro w' ⟨s0, s1, s2, s3, s4, s5, s6, s7⟩; go_simp; with_reducible rfl)
    refine join_ (σ := Nat) 2 #[true, true, true, true, true, true, true, true, false, false] (fun s_ => [(29, .agg #[.int .i64 t228, .int .i64 t229, .int .i64 t230, .int .i64 t231]), (31, .tuple #[.agg #[.int .i64 t232, .int .i64 t233, .int .i64 t234, .int .i64 t235], .bool true]), (9, .pointer (some ⟨s_, 0, none⟩)), (27, .tuple #[.agg #[.int .i64 t232, .int .i64 t233, .int .i64 t234, .int .i64 t235], .bool true]), (32, .agg #[.int .i64 t232, .int .i64 t233, .int .i64 t234, .int .i64 t235]), (33, .bool true)]) (fun s_ w' => (w'.cell? ⟨gb227, 0, none⟩ = some (.int .i64 t222) ∧ w'.cell? ⟨gb227, 1, none⟩ = some (.int .i64 t223) ∧ w'.cell? ⟨gb227, 2, none⟩ = some (.int .i64 t224) ∧ w'.cell? ⟨gb227, 3, none⟩ = some (.int .i64 t225) ∧ w'.cell? ⟨gb219, 0, none⟩ = some (.int .i64 a1_0) ∧ w'.cell? ⟨gb219, 1, none⟩ = some (.int .i64 a1_1) ∧ w'.cell? ⟨gb219, 2, none⟩ = some (.int .i64 a1_2) ∧ w'.cell? ⟨gb219, 3, none⟩ = some (.int .i64 a1_3)) ∧ (w'.heap[gb219]? = some (.cells #[.int .i64 a1_0, .int .i64 a1_1, .int .i64 a1_2, .int .i64 a1_3] 33 (0, 0))) ∧ (w'.heap[gb220]? = some (.cells #[.int .i64 0, .int .i64 0, .int .i64 0, .int .i64 0] 33 (0, 0))) ∧ (w'.heap[gb227]? = some (.cells #[.int .i64 t222, .int .i64 t223, .int .i64 t224, .int .i64 t225] 33 (0, 0))) ∧ (w'.heap[s_]? = some (.cells #[.int .i64 0, .int .i64 0, .int .i64 0, .int .i64 0] 33 (0, 0))) ∧ (w.heap.size ≤ s_) ∧ (w.heap.size ≤ s_) ∧ (gb219 ≠ s_) ∧ (s_ ≠ gb219) ∧ (gb220 ≠ s_) ∧ (s_ ≠ gb220) ∧ (gb227 ≠ s_) ∧ (s_ ≠ gb227) ∧ (Below w.heap.size w w')) ?_ ?_
    rotate_left
    ·intro hCont
     refine two_ (i := 1) (j := 7) (Ni := some 29) (Nj := some 9) #[true, true, true, false, false, false, false, false, false, false] #[true, false, true, false, false, false, false, true, false, false] rfl rfl rfl rfl (two_of HT_.out (by kernel_rfl)) (by decide) (by decide) (fun K hK => ?_) (fun K hK => ?_)
     ·skip
      refine goes_ Try.func49 (by kernel_rfl) rfl #[.agg #[.int .i64 t222, .int .i64 t223, .int .i64 t224, .int .i64 t225]] (by rfl) rfl rfl (by (try simp only [List.map_toArray, List.map_cons, List.map_nil]); first | done | rfl | (simp only [List.length_drop, List.length_take]; rfl)) ?_
      with_reducible refine (spec_l04Inverse.calls k t222 t223 t224 t225 t228 t229 t230 t231 _ A7.out).mono ?_
      rintro e w23 ⟨rfl, hb⟩
      refine ⟨_, rfl, ?_⟩
      replace BK219 := bb_ BK219 hb
      replace BK220 := bb_ BK220 hb
      replace BK227 := bb_ BK227 hb
      replace HB := bt_ HB hb
      (try clear hb)
      (try clear hb2)
      (try clear hk)
      (try clear hi)
      refine hK.out _ _ ⟨(blk_cell BK227.out 0).trans rfl, (blk_cell BK227.out 1).trans rfl, (blk_cell BK227.out 2).trans rfl, (blk_cell BK227.out 3).trans rfl, (blk_cell BK219.out 0).trans rfl, (blk_cell BK219.out 1).trans rfl, (blk_cell BK219.out 2).trans rfl, (blk_cell BK219.out 3).trans rfl⟩ (fun hHeld => ?_)
      clear hK K
      refine norm_ (a' := ?_) ?_ ?_
      rotate_left
      ·show Act.put _ (some 29) _ = _
       simp only [Act.put, lstS, lstZ, lstC, i64_w, i32_w]
       rfl
      refine two_ (i := 3) (j := 7) (Ni := some 31) (Nj := some 9) #[true, true, true, true, false, false, false, false, false, false] #[true, true, true, false, false, false, false, true, false, false] rfl rfl rfl rfl (two_of HT_.out (by kernel_rfl)) (by decide) (by decide) (fun K hK => ?_) (fun K hK => ?_)
      ·skip
       refine goes_ Try.func48 (by kernel_rfl) rfl #[.agg #[.int .i64 t228, .int .i64 t229, .int .i64 t230, .int .i64 t231], .agg #[.int .i64 a1_0, .int .i64 a1_1, .int .i64 a1_2, .int .i64 a1_3]] (by rfl) rfl rfl (by (try simp only [List.map_toArray, List.map_cons, List.map_nil]); first | done | rfl | (simp only [List.length_drop, List.length_take]; rfl)) ?_
       with_reducible refine (spec_l04Times.calls k t228 t229 t230 t231 a1_0 a1_1 a1_2 a1_3 t232 t233 t234 t235 true _ A8.out).mono ?_
       rintro e w24 ⟨rfl, hb⟩
       refine ⟨_, rfl, ?_⟩
       replace BK219 := bb_ BK219 hb
       replace BK220 := bb_ BK220 hb
       replace BK227 := bb_ BK227 hb
       replace HB := bt_ HB hb
       (try clear hb)
       (try clear hb2)
       (try clear hk)
       (try clear hi)
       refine hK.out _ _ ⟨(blk_cell BK227.out 0).trans rfl, (blk_cell BK227.out 1).trans rfl, (blk_cell BK227.out 2).trans rfl, (blk_cell BK227.out 3).trans rfl, (blk_cell BK219.out 0).trans rfl, (blk_cell BK219.out 1).trans rfl, (blk_cell BK219.out 2).trans rfl, (blk_cell BK219.out 3).trans rfl⟩ (fun hHeld => ?_)
       clear hK K
       refine norm_ (a' := ?_) ?_ ?_
       rotate_left
       ·show Act.put _ (some 31) _ = _
        simp only [Act.put, lstS, lstZ, lstC, i64_w, i32_w]
        rfl
       refine pu_ HT_ 4 (some 27) #[true, true, true, true, true, false, false, false, false, false] ?_
       refine pu_ HT_ 5 (some 32) #[true, true, true, true, true, true, false, false, false, false] ?_
       refine pu_ HT_ 6 (some 33) #[true, true, true, true, true, true, true, false, false, false] ?_
       refine one_ (i := 7) (N := some 9) #[true, true, true, true, true, true, true, true, false, false] rfl rfl (one_of HT_.out (by kernel_rfl)) (by decide) (fun K hK => ?_)
       refine box_step ?hg (N := 9) ?hd (cs := #[.int .i64 0, .int .i64 0, .int .i64 0, .int .i64 0]) (t := 33) ?hr ?_; (case hd => rfl); (case hg => rfl); (case hr => first | (go_simp; done) | (go_simp; rfl))
       intro gb237 hg w25 hbox hb
       have BK237 := Aside0.mk (hbox)
       have GW237 := bs_ HB hg
       have GE237 := bs_ HB hg
       have NB219_237 := bm_ BK219 hg
       have NB237_219 := bn_ BK219 hg
       have NB220_237 := bm_ BK220 hg
       have NB237_220 := bn_ BK220 hg
       have NB227_237 := bm_ BK227 hg
       have NB237_227 := bn_ BK227 hg
       replace BK219 := bb_ BK219 hb
       replace BK220 := bb_ BK220 hb
       replace BK227 := bb_ BK227 hb
       replace HB := bt_ HB hb
       clear hb hbox hg
       refine hK.out _ _ ⟨(blk_cell BK227.out 0).trans rfl, (blk_cell BK227.out 1).trans rfl, (blk_cell BK227.out 2).trans rfl, (blk_cell BK227.out 3).trans rfl, (blk_cell BK219.out 0).trans rfl, (blk_cell BK219.out 1).trans rfl, (blk_cell BK219.out 2).trans rfl, (blk_cell BK219.out 3).trans rfl⟩ (fun hHeld => ?_)
       clear hK K
       refine norm_ (a' := ?_) ?_ ?_
       rotate_left
       ·show Act.put _ (some 9) _ = _
        simp only [Act.put, lstS, lstZ, lstC, i64_w, i32_w]
        rfl
       exact norm_ (by simp only [putAll, Act.put, lstS, lstZ, lstC]) (hCont (gb237) _ ⟨hHeld, (bl_ BK219).out, (bl_ BK220).out, (bl_ BK227).out, (bl_ BK237).out, GW237.out, GE237.out, NB219_237.out, NB237_219.out, NB220_237.out, NB237_220.out, NB227_237.out, NB237_227.out, (bw_ HB).out⟩)
      ·skip
       refine box_step ?hg (N := 9) ?hd (cs := #[.int .i64 0, .int .i64 0, .int .i64 0, .int .i64 0]) (t := 33) ?hr ?_; (case hd => rfl); (case hg => rfl); (case hr => first | (go_simp; done) | (go_simp; rfl))
       intro gb237 hg w24 hbox hb
       have BK237 := Aside0.mk (hbox)
       have GW237 := bs_ HB hg
       have GE237 := bs_ HB hg
       have NB219_237 := bm_ BK219 hg
       have NB237_219 := bn_ BK219 hg
       have NB220_237 := bm_ BK220 hg
       have NB237_220 := bn_ BK220 hg
       have NB227_237 := bm_ BK227 hg
       have NB237_227 := bn_ BK227 hg
       replace BK219 := bb_ BK219 hb
       replace BK220 := bb_ BK220 hb
       replace BK227 := bb_ BK227 hb
       replace HB := bt_ HB hb
       clear hb hbox hg
       refine hK.out _ _ ⟨(blk_cell BK227.out 0).trans rfl, (blk_cell BK227.out 1).trans rfl, (blk_cell BK227.out 2).trans rfl, (blk_cell BK227.out 3).trans rfl, (blk_cell BK219.out 0).trans rfl, (blk_cell BK219.out 1).trans rfl, (blk_cell BK219.out 2).trans rfl, (blk_cell BK219.out 3).trans rfl⟩ (fun hHeld => ?_)
       clear hK K
       refine norm_ (a' := ?_) ?_ ?_
       rotate_left
       ·show Act.put _ (some 9) _ = _
        simp only [Act.put, lstS, lstZ, lstC, i64_w, i32_w]
        rfl
       refine one_ (i := 3) (N := some 31) #[true, true, true, true, false, false, false, true, false, false] rfl rfl (one_of HT_.out (by kernel_rfl)) (by decide) (fun K hK => ?_)
       refine goes_ Try.func48 (by kernel_rfl) rfl #[.agg #[.int .i64 t228, .int .i64 t229, .int .i64 t230, .int .i64 t231], .agg #[.int .i64 a1_0, .int .i64 a1_1, .int .i64 a1_2, .int .i64 a1_3]] (by rfl) rfl rfl (by (try simp only [List.map_toArray, List.map_cons, List.map_nil]); first | done | rfl | (simp only [List.length_drop, List.length_take]; rfl)) ?_
       with_reducible refine (spec_l04Times.calls k t228 t229 t230 t231 a1_0 a1_1 a1_2 a1_3 t232 t233 t234 t235 true _ A8.out).mono ?_
       rintro e w25 ⟨rfl, hb⟩
       refine ⟨_, rfl, ?_⟩
       replace BK219 := bb_ BK219 hb
       replace BK220 := bb_ BK220 hb
       replace BK227 := bb_ BK227 hb
       replace BK237 := bb_ BK237 hb
       replace HB := bt_ HB hb
       (try clear hb)
       (try clear hb2)
       (try clear hk)
       (try clear hi)
       refine hK.out _ _ ⟨(blk_cell BK227.out 0).trans rfl, (blk_cell BK227.out 1).trans rfl, (blk_cell BK227.out 2).trans rfl, (blk_cell BK227.out 3).trans rfl, (blk_cell BK219.out 0).trans rfl, (blk_cell BK219.out 1).trans rfl, (blk_cell BK219.out 2).trans rfl, (blk_cell BK219.out 3).trans rfl⟩ (fun hHeld => ?_)
       clear hK K
       refine norm_ (a' := ?_) ?_ ?_
       rotate_left
       ·show Act.put _ (some 31) _ = _
        simp only [Act.put, lstS, lstZ, lstC, i64_w, i32_w]
        rfl
       refine pu_ HT_ 4 (some 27) #[true, true, true, true, true, false, false, true, false, false] ?_
       refine pu_ HT_ 5 (some 32) #[true, true, true, true, true, true, false, true, false, false] ?_
       refine pu_ HT_ 6 (some 33) #[true, true, true, true, true, true, true, true, false, false] ?_
       exact norm_ (by simp only [putAll, Act.put, lstS, lstZ, lstC]) (hCont (gb237) _ ⟨hHeld, (bl_ BK219).out, (bl_ BK220).out, (bl_ BK227).out, (bl_ BK237).out, GW237.out, GE237.out, NB219_237.out, NB237_219.out, NB220_237.out, NB237_220.out, NB227_237.out, NB237_227.out, (bw_ HB).out⟩)
     ·skip
      refine box_step ?hg (N := 9) ?hd (cs := #[.int .i64 0, .int .i64 0, .int .i64 0, .int .i64 0]) (t := 33) ?hr ?_; (case hd => rfl); (case hg => rfl); (case hr => first | (go_simp; done) | (go_simp; rfl))
      intro gb237 hg w23 hbox hb
      have BK237 := Aside0.mk (hbox)
      have GW237 := bs_ HB hg
      have GE237 := bs_ HB hg
      have NB219_237 := bm_ BK219 hg
      have NB237_219 := bn_ BK219 hg
      have NB220_237 := bm_ BK220 hg
      have NB237_220 := bn_ BK220 hg
      have NB227_237 := bm_ BK227 hg
      have NB237_227 := bn_ BK227 hg
      replace BK219 := bb_ BK219 hb
      replace BK220 := bb_ BK220 hb
      replace BK227 := bb_ BK227 hb
      replace HB := bt_ HB hb
      clear hb hbox hg
      refine hK.out _ _ ⟨(blk_cell BK227.out 0).trans rfl, (blk_cell BK227.out 1).trans rfl, (blk_cell BK227.out 2).trans rfl, (blk_cell BK227.out 3).trans rfl, (blk_cell BK219.out 0).trans rfl, (blk_cell BK219.out 1).trans rfl, (blk_cell BK219.out 2).trans rfl, (blk_cell BK219.out 3).trans rfl⟩ (fun hHeld => ?_)
      clear hK K
      refine norm_ (a' := ?_) ?_ ?_
      rotate_left
      ·show Act.put _ (some 9) _ = _
       simp only [Act.put, lstS, lstZ, lstC, i64_w, i32_w]
       rfl
      refine one_ (i := 1) (N := some 29) #[true, true, true, false, false, false, false, true, false, false] rfl rfl (one_of HT_.out (by kernel_rfl)) (by decide) (fun K hK => ?_)
      refine goes_ Try.func49 (by kernel_rfl) rfl #[.agg #[.int .i64 t222, .int .i64 t223, .int .i64 t224, .int .i64 t225]] (by rfl) rfl rfl (by (try simp only [List.map_toArray, List.map_cons, List.map_nil]); first | done | rfl | (simp only [List.length_drop, List.length_take]; rfl)) ?_
      with_reducible refine (spec_l04Inverse.calls k t222 t223 t224 t225 t228 t229 t230 t231 _ A7.out).mono ?_
      rintro e w24 ⟨rfl, hb⟩
      refine ⟨_, rfl, ?_⟩
      replace BK219 := bb_ BK219 hb
      replace BK220 := bb_ BK220 hb
      replace BK227 := bb_ BK227 hb
      replace BK237 := bb_ BK237 hb
      replace HB := bt_ HB hb
      (try clear hb)
      (try clear hb2)
      (try clear hk)
      (try clear hi)
      refine hK.out _ _ ⟨(blk_cell BK227.out 0).trans rfl, (blk_cell BK227.out 1).trans rfl, (blk_cell BK227.out 2).trans rfl, (blk_cell BK227.out 3).trans rfl, (blk_cell BK219.out 0).trans rfl, (blk_cell BK219.out 1).trans rfl, (blk_cell BK219.out 2).trans rfl, (blk_cell BK219.out 3).trans rfl⟩ (fun hHeld => ?_)
      clear hK K
      refine norm_ (a' := ?_) ?_ ?_
      rotate_left
      ·show Act.put _ (some 29) _ = _
       simp only [Act.put, lstS, lstZ, lstC, i64_w, i32_w]
       rfl
      refine one_ (i := 3) (N := some 31) #[true, true, true, true, false, false, false, true, false, false] rfl rfl (one_of HT_.out (by kernel_rfl)) (by decide) (fun K hK => ?_)
      refine goes_ Try.func48 (by kernel_rfl) rfl #[.agg #[.int .i64 t228, .int .i64 t229, .int .i64 t230, .int .i64 t231], .agg #[.int .i64 a1_0, .int .i64 a1_1, .int .i64 a1_2, .int .i64 a1_3]] (by rfl) rfl rfl (by (try simp only [List.map_toArray, List.map_cons, List.map_nil]); first | done | rfl | (simp only [List.length_drop, List.length_take]; rfl)) ?_
      with_reducible refine (spec_l04Times.calls k t228 t229 t230 t231 a1_0 a1_1 a1_2 a1_3 t232 t233 t234 t235 true _ A8.out).mono ?_
      rintro e w25 ⟨rfl, hb⟩
      refine ⟨_, rfl, ?_⟩
      replace BK219 := bb_ BK219 hb
      replace BK220 := bb_ BK220 hb
      replace BK227 := bb_ BK227 hb
      replace BK237 := bb_ BK237 hb
      replace HB := bt_ HB hb
      (try clear hb)
      (try clear hb2)
      (try clear hk)
      (try clear hi)
      refine hK.out _ _ ⟨(blk_cell BK227.out 0).trans rfl, (blk_cell BK227.out 1).trans rfl, (blk_cell BK227.out 2).trans rfl, (blk_cell BK227.out 3).trans rfl, (blk_cell BK219.out 0).trans rfl, (blk_cell BK219.out 1).trans rfl, (blk_cell BK219.out 2).trans rfl, (blk_cell BK219.out 3).trans rfl⟩ (fun hHeld => ?_)
      clear hK K
      refine norm_ (a' := ?_) ?_ ?_
      rotate_left
      ·show Act.put _ (some 31) _ = _
       simp only [Act.put, lstS, lstZ, lstC, i64_w, i32_w]
       rfl
      refine pu_ HT_ 4 (some 27) #[true, true, true, true, true, false, false, true, false, false] ?_
      refine pu_ HT_ 5 (some 32) #[true, true, true, true, true, true, false, true, false, false] ?_
      refine pu_ HT_ 6 (some 33) #[true, true, true, true, true, true, true, true, false, false] ?_
      exact norm_ (by simp only [putAll, Act.put, lstS, lstZ, lstC]) (hCont (gb237) _ ⟨hHeld, (bl_ BK219).out, (bl_ BK220).out, (bl_ BK227).out, (bl_ BK237).out, GW237.out, GE237.out, NB219_237.out, NB237_219.out, NB220_237.out, NB237_220.out, NB227_237.out, NB237_227.out, (bw_ HB).out⟩)
    rintro gb237 w26 ⟨hS_, h0_, h1_, h2_, h3_, h4_, h5_, h6_, h7_, h8_, h9_, h10_, h11_, h12_⟩
    have n0_ : Aside0 (w26.heap[gb219]? = some (.cells #[.int .i64 a1_0, .int .i64 a1_1, .int .i64 a1_2, .int .i64 a1_3] 33 (0, 0))) := ⟨h0_⟩
    have n1_ : Aside0 (w26.heap[gb220]? = some (.cells #[.int .i64 0, .int .i64 0, .int .i64 0, .int .i64 0] 33 (0, 0))) := ⟨h1_⟩
    have n2_ : Aside0 (w26.heap[gb227]? = some (.cells #[.int .i64 t222, .int .i64 t223, .int .i64 t224, .int .i64 t225] 33 (0, 0))) := ⟨h2_⟩
    have n3_ : Aside0 (w26.heap[gb237]? = some (.cells #[.int .i64 0, .int .i64 0, .int .i64 0, .int .i64 0] 33 (0, 0))) := ⟨h3_⟩
    have n4_ : Aside0 (w.heap.size ≤ gb237) := ⟨h4_⟩
    have n5_ : Aside0 (w.heap.size ≤ gb237) := ⟨h5_⟩
    have n6_ : Aside0 (gb219 ≠ gb237) := ⟨h6_⟩
    have n7_ : Aside0 (gb237 ≠ gb219) := ⟨h7_⟩
    have n8_ : Aside0 (gb220 ≠ gb237) := ⟨h8_⟩
    have n9_ : Aside0 (gb237 ≠ gb220) := ⟨h9_⟩
    have n10_ : Aside0 (gb227 ≠ gb237) := ⟨h10_⟩
    have n11_ : Aside0 (gb237 ≠ gb227) := ⟨h11_⟩
    have n12_ : Aside0 (Below w.heap.size w w26) := ⟨h12_⟩
    clear BK219
    clear BK220
    clear BK227
    clear HB
    clear h0_ h1_ h2_ h3_ h4_ h5_ h6_ h7_ h8_ h9_ h10_ h11_ h12_
    have BK219 := n0_
    have BK220 := n1_
    have BK227 := n2_
    have BK237 := n3_
    have GW237 := n4_
    have GE237 := n5_
    have NB219_237 := n6_
    have NB237_219 := n7_
    have NB220_237 := n8_
    have NB237_220 := n9_
    have NB227_237 := n10_
    have NB237_227 := n11_
    have HB := n12_
    clear n0_ n1_ n2_ n3_ n4_ n5_ n6_ n7_ n8_ n9_ n10_ n11_ n12_
    have hHeld : w26.cell? ⟨gb227, 0, none⟩ = some (.int .i64 t222) ∧ w26.cell? ⟨gb227, 1, none⟩ = some (.int .i64 t223) ∧ w26.cell? ⟨gb227, 2, none⟩ = some (.int .i64 t224) ∧ w26.cell? ⟨gb227, 3, none⟩ = some (.int .i64 t225) ∧ w26.cell? ⟨gb219, 0, none⟩ = some (.int .i64 a1_0) ∧ w26.cell? ⟨gb219, 1, none⟩ = some (.int .i64 a1_1) ∧ w26.cell? ⟨gb219, 2, none⟩ = some (.int .i64 a1_2) ∧ w26.cell? ⟨gb219, 3, none⟩ = some (.int .i64 a1_3) := hS_
    refine norm_ (a' := ?_) ?_ ?_
    rotate_left
    ·simp only [putAll, Act.put, lstS, lstZ, lstC]
     rfl
    refine one_ (i := 8) (N := none) #[true, true, true, true, true, true, true, true, true, false] rfl rfl (one_of HT_.out (by kernel_rfl)) (by decide) (fun K hK => ?_)
    have hs27 : w26.cell? ⟨gb237, 0, none⟩ = some (.int .i64 0) := (blk_cell BK237.out 0).trans rfl
    have hfs27 := blk_frozen BK237.out 0
    have hns27_0 := NB219_237.out
    have hns27_1 := NB220_237.out
    have hns27_2 := NB227_237.out
    have hms27_0 := NB237_219.out
    have hms27_1 := NB237_220.out
    have hms27_2 := NB237_227.out
    have hs28 : w26.cell? ⟨gb237, 1, none⟩ = some (.int .i64 0) := (blk_cell BK237.out 1).trans rfl
    have hfs28 := blk_frozen BK237.out 1
    have hns28_0 := NB219_237.out
    have hns28_1 := NB220_237.out
    have hns28_2 := NB227_237.out
    have hms28_0 := NB237_219.out
    have hms28_1 := NB237_220.out
    have hms28_2 := NB237_227.out
    have hs29 : w26.cell? ⟨gb237, 2, none⟩ = some (.int .i64 0) := (blk_cell BK237.out 2).trans rfl
    have hfs29 := blk_frozen BK237.out 2
    have hns29_0 := NB219_237.out
    have hns29_1 := NB220_237.out
    have hns29_2 := NB227_237.out
    have hms29_0 := NB237_219.out
    have hms29_1 := NB237_220.out
    have hms29_2 := NB237_227.out
    have hs30 : w26.cell? ⟨gb237, 3, none⟩ = some (.int .i64 0) := (blk_cell BK237.out 3).trans rfl
    have hfs30 := blk_frozen BK237.out 3
    have hns30_0 := NB219_237.out
    have hns30_1 := NB220_237.out
    have hns30_2 := NB227_237.out
    have hms30_0 := NB237_219.out
    have hms30_1 := NB237_220.out
    have hms30_2 := NB237_227.out
    refine skip_ (w1 := ?_) (by rfl) rfl ?_ ?_
    rotate_left
    ·go_simp
     rfl
    refine hK.out _ _ ⟨((cell_far (p := ⟨gb237, _, none⟩) NB227_237.out _).trans (((cell_far (p := ⟨gb237, _, none⟩) NB227_237.out _).trans (((cell_far (p := ⟨gb237, _, none⟩) NB227_237.out _).trans (((cell_far (p := ⟨gb237, _, none⟩) NB227_237.out _).trans (hHeld.1)))))))), ((cell_far (p := ⟨gb237, _, none⟩) NB227_237.out _).trans (((cell_far (p := ⟨gb237, _, none⟩) NB227_237.out _).trans (((cell_far (p := ⟨gb237, _, none⟩) NB227_237.out _).trans (((cell_far (p := ⟨gb237, _, none⟩) NB227_237.out _).trans (hHeld.2.1)))))))), ((cell_far (p := ⟨gb237, _, none⟩) NB227_237.out _).trans (((cell_far (p := ⟨gb237, _, none⟩) NB227_237.out _).trans (((cell_far (p := ⟨gb237, _, none⟩) NB227_237.out _).trans (((cell_far (p := ⟨gb237, _, none⟩) NB227_237.out _).trans (hHeld.2.2.1)))))))), ((cell_far (p := ⟨gb237, _, none⟩) NB227_237.out _).trans (((cell_far (p := ⟨gb237, _, none⟩) NB227_237.out _).trans (((cell_far (p := ⟨gb237, _, none⟩) NB227_237.out _).trans (((cell_far (p := ⟨gb237, _, none⟩) NB227_237.out _).trans (hHeld.2.2.2.1)))))))), ((cell_far (p := ⟨gb237, _, none⟩) NB219_237.out _).trans (((cell_far (p := ⟨gb237, _, none⟩) NB219_237.out _).trans (((cell_far (p := ⟨gb237, _, none⟩) NB219_237.out _).trans (((cell_far (p := ⟨gb237, _, none⟩) NB219_237.out _).trans (hHeld.2.2.2.2.1)))))))), ((cell_far (p := ⟨gb237, _, none⟩) NB219_237.out _).trans (((cell_far (p := ⟨gb237, _, none⟩) NB219_237.out _).trans (((cell_far (p := ⟨gb237, _, none⟩) NB219_237.out _).trans (((cell_far (p := ⟨gb237, _, none⟩) NB219_237.out _).trans (hHeld.2.2.2.2.2.1)))))))), ((cell_far (p := ⟨gb237, _, none⟩) NB219_237.out _).trans (((cell_far (p := ⟨gb237, _, none⟩) NB219_237.out _).trans (((cell_far (p := ⟨gb237, _, none⟩) NB219_237.out _).trans (((cell_far (p := ⟨gb237, _, none⟩) NB219_237.out _).trans (hHeld.2.2.2.2.2.2.1)))))))), ((cell_far (p := ⟨gb237, _, none⟩) NB219_237.out _).trans (((cell_far (p := ⟨gb237, _, none⟩) NB219_237.out _).trans (((cell_far (p := ⟨gb237, _, none⟩) NB219_237.out _).trans (((cell_far (p := ⟨gb237, _, none⟩) NB219_237.out _).trans (hHeld.2.2.2.2.2.2.2))))))))⟩ (fun hHeld => ?_)
    clear hK K
    refine pu_ HT_ 9 (some 10) #[true, true, true, true, true, true, true, true, true, true] ?_
    refine done_ (done_of HT_.out (by kernel_rfl)) ?_
    have hnb31 := NB237_219.out
    have hnc31 := NB219_237.out
    have hnb32 := NB237_220.out
    have hnc32 := NB220_237.out
    have hnb33 := NB237_227.out
    have hnc33 := NB227_237.out
    have hcz34_0 : w26.cell? ⟨gb237, 0, none⟩ = some (.int .i64 0) := (blk_cell BK237.out 0).trans rfl
    have hcz34_1 : w26.cell? ⟨gb237, 1, none⟩ = some (.int .i64 0) := (blk_cell BK237.out 1).trans rfl
    have hcz34_2 : w26.cell? ⟨gb237, 2, none⟩ = some (.int .i64 0) := (blk_cell BK237.out 2).trans rfl
    have hcz34_3 : w26.cell? ⟨gb237, 3, none⟩ = some (.int .i64 0) := (blk_cell BK237.out 3).trans rfl
    have hfz34_0 := blk_frozen BK237.out 0
    have hfz34_1 := blk_frozen BK237.out 1
    have hfz34_2 := blk_frozen BK237.out 2
    have hfz34_3 := blk_frozen BK237.out 3
    have hcz35_0 : w26.cell? ⟨gb220, 0, none⟩ = some (.int .i64 0) := (blk_cell BK220.out 0).trans rfl
    have hcz35_1 : w26.cell? ⟨gb220, 1, none⟩ = some (.int .i64 0) := (blk_cell BK220.out 1).trans rfl
    have hcz35_2 : w26.cell? ⟨gb220, 2, none⟩ = some (.int .i64 0) := (blk_cell BK220.out 2).trans rfl
    have hcz35_3 : w26.cell? ⟨gb220, 3, none⟩ = some (.int .i64 0) := (blk_cell BK220.out 3).trans rfl
    have hfz35_0 := blk_frozen BK220.out 0
    have hfz35_1 := blk_frozen BK220.out 1
    have hfz35_2 := blk_frozen BK220.out 2
    have hfz35_3 := blk_frozen BK220.out 3
    try go_wp2
    refine bodyPost_ret (results_ct rfl _ _ gb220 33 #[.int .i64 t232, .int .i64 t233, .int .i64 t234, .int .i64 t235] (0, 0) _ rfl (by (with_reducible repeat first | apply blk_drewN | apply blk_drew | apply blk_alloc); refine blk_put (cs := #[.int .i64 t232, .int .i64 t233, .int .i64 t234, .int .i64 0]) ?_ 3 _ rfl; (with_reducible repeat first | apply blk_drewN | apply blk_drew | apply blk_alloc); refine blk_put (cs := #[.int .i64 t232, .int .i64 t233, .int .i64 0, .int .i64 0]) ?_ 2 _ rfl; (with_reducible repeat first | apply blk_drewN | apply blk_drew | apply blk_alloc); refine blk_put (cs := #[.int .i64 t232, .int .i64 0, .int .i64 0, .int .i64 0]) ?_ 1 _ rfl; (with_reducible repeat first | apply blk_drewN | apply blk_drew | apply blk_alloc); refine blk_put (cs := #[.int .i64 0, .int .i64 0, .int .i64 0, .int .i64 0]) ?_ 0 _ rfl; (with_reducible repeat first | apply blk_drewN | apply blk_drew | apply blk_alloc); refine blk_far ?_ NB220_237.out _; (with_reducible repeat first | apply blk_drewN | apply blk_drew | apply blk_alloc); refine blk_far ?_ NB220_237.out _; (with_reducible repeat first | apply blk_drewN | apply blk_drew | apply blk_alloc); refine blk_far ?_ NB220_237.out _; (with_reducible repeat first | apply blk_drewN | apply blk_drew | apply blk_alloc); refine blk_far ?_ NB220_237.out _; (with_reducible repeat first | apply blk_drewN | apply blk_drew | apply blk_alloc); exact BK220.out) Try.underlying33 rfl (by kernel_rfl)) rfl ?_
    exact ⟨by first | rfl | (simp [errW_none, errW_some] <;> rfl) | (simp [*, errW_none, errW_some] <;> rfl), by repeat (first | (with_reducible first | exact HB.out | apply below_alloc | apply pw_below_drewN | apply below_drew1 | refine below_set ?_ GE219.out | refine below_set ?_ GE220.out | refine below_set ?_ GE227.out | refine below_set ?_ GE237.out) | exact HB.out)⟩
   ·replace c9 := Bool.eq_false_iff.mpr c9
    subst c9
    have H1 : (some (0, 0, 0, 0, 3)) = some (r1, r2, r3, r4, r5) := by rw [if_neg (show ¬ (false = true) by decide)] at H; exact H
    clear H
    have H := H1
    clear H1
    simp only [Option.some.injEq, Prod.mk.injEq] at H
    obtain ⟨rfl, rfl, rfl, rfl, rfl⟩ := H
    go_enter Try.func17, Try.ntmps17
    try go_wp2_with (first | ((with_reducible refine gate_dst (N := 3) rfl ?_); refine bx_ 3 #[.int .i64 a1_0, .int .i64 a1_1, .int .i64 a1_2, .int .i64 a1_3] 33 ?_; intro gb219 hg w36 hbox hb; have BK219 := Aside0.mk (hbox); have GW219 := bs_ HB hg; have GE219 := bs_ HB hg; replace HB := bt_ HB hb; clear hb hbox hg) | ((with_reducible refine gate_dst (N := 4) rfl ?_); refine bx_ 4 #[.int .i64 0, .int .i64 0, .int .i64 0, .int .i64 0] 33 ?_; intro gb220 hg w37 hbox hb; have BK220 := Aside0.mk (hbox); have GW220 := bs_ HB hg; have GE220 := bs_ HB hg; have NB219_220 := bm_ BK219 hg; have NB220_219 := bn_ BK219 hg; replace BK219 := bb_ BK219 hb; replace HB := bt_ HB hb; clear hb hbox hg; have hnb38 := NB219_220.out; have hnc38 := NB220_219.out; have hcz39_0 : w37.cell? ⟨gb219, 0, none⟩ = some (.int .i64 a1_0) := (blk_cell BK219.out 0).trans rfl; have hcz39_1 : w37.cell? ⟨gb219, 1, none⟩ = some (.int .i64 a1_1) := (blk_cell BK219.out 1).trans rfl; have hcz39_2 : w37.cell? ⟨gb219, 2, none⟩ = some (.int .i64 a1_2) := (blk_cell BK219.out 2).trans rfl; have hcz39_3 : w37.cell? ⟨gb219, 3, none⟩ = some (.int .i64 a1_3) := (blk_cell BK219.out 3).trans rfl; have hfz39_0 := blk_frozen BK219.out 0; have hfz39_1 := blk_frozen BK219.out 1; have hfz39_2 := blk_frozen BK219.out 2; have hfz39_3 := blk_frozen BK219.out 3) | ((with_reducible refine gate_callee (f := 42) rfl ?_); refine goesL_ (some 13) rfl rfl Try.func42 (by kernel_rfl) rfl #[.int .i64 a0, .agg #[.int .i64 a1_0, .int .i64 a1_1, .int .i64 a1_2, .int .i64 a1_3], .slice none 0 0] rfl (by (try simp only [List.map_toArray, List.map_cons, List.map_nil]); first | done | rfl | (simp only [List.length_drop, List.length_take]; rfl)) ?_; (refine (spec_l04Code.calls k a0 a1_0 a1_1 a1_2 a1_3 _ _ ([] : List (S28)) t221 _ ?side1 ?side2 A3.out).mono ?_); (case side1 => exact Kd.C_nil _ _); (case side2 => exact Nat.le_refl _); rintro e w40 ⟨rfl, hb⟩; refine ⟨_, rfl, ?_⟩; replace BK219 := bb_ BK219 hb; replace BK220 := bb_ BK220 hb; replace HB := bt_ HB hb; (try clear hb); (try clear hb2); (try clear hk); (try clear hi); have hcz41_0 : w40.cell? ⟨gb219, 0, none⟩ = some (.int .i64 a1_0) := (blk_cell BK219.out 0).trans rfl; have hcz41_1 : w40.cell? ⟨gb219, 1, none⟩ = some (.int .i64 a1_1) := (blk_cell BK219.out 1).trans rfl; have hcz41_2 : w40.cell? ⟨gb219, 2, none⟩ = some (.int .i64 a1_2) := (blk_cell BK219.out 2).trans rfl; have hcz41_3 : w40.cell? ⟨gb219, 3, none⟩ = some (.int .i64 a1_3) := (blk_cell BK219.out 3).trans rfl; have hfz41_0 := blk_frozen BK219.out 0; have hfz41_1 := blk_frozen BK219.out 1; have hfz41_2 := blk_frozen BK219.out 2; have hfz41_3 := blk_frozen BK219.out 3) | ((with_reducible refine gate_callee (f := 43) rfl ?_); refine goesL_ (some 21) rfl rfl Try.func43 (by kernel_rfl) rfl #[.int .i64 a0, .agg #[.int .i64 a1_0, .int .i64 a1_1, .int .i64 a1_2, .int .i64 a1_3]] rfl (by (try simp only [List.map_toArray, List.map_cons, List.map_nil]); first | done | rfl | (simp only [List.length_drop, List.length_take]; rfl)) ?_; (with_reducible refine (spec_l10Triangular.calls k a0 a1_0 a1_1 a1_2 a1_3 t222 t223 t224 t225 true _ A5.out).mono ?_); rintro e w42 ⟨rfl, hb⟩; refine ⟨_, rfl, ?_⟩; replace BK219 := bb_ BK219 hb; replace BK220 := bb_ BK220 hb; replace HB := bt_ HB hb; (try clear hb); (try clear hb2); (try clear hk); (try clear hi)) | ((with_reducible refine gate_dst (N := 7) rfl ?_); refine bx_ 7 #[.int .i64 0, .int .i64 0, .int .i64 0, .int .i64 0] 33 ?_; intro gb227 hg w43 hbox hb; have BK227 := Aside0.mk (hbox); have GW227 := bs_ HB hg; have GE227 := bs_ HB hg; have NB219_227 := bm_ BK219 hg; have NB227_219 := bn_ BK219 hg; have NB220_227 := bm_ BK220 hg; have NB227_220 := bn_ BK220 hg; replace BK219 := bb_ BK219 hb; replace BK220 := bb_ BK220 hb; replace HB := bt_ HB hb; clear hb hbox hg; have hnb44 := NB227_219.out; have hnc44 := NB219_227.out; have hnb45 := NB227_220.out; have hnc45 := NB220_227.out; have hcz46_0 : w43.cell? ⟨gb227, 0, none⟩ = some (.int .i64 0) := (blk_cell BK227.out 0).trans rfl; have hcz46_1 : w43.cell? ⟨gb227, 1, none⟩ = some (.int .i64 0) := (blk_cell BK227.out 1).trans rfl; have hcz46_2 : w43.cell? ⟨gb227, 2, none⟩ = some (.int .i64 0) := (blk_cell BK227.out 2).trans rfl; have hcz46_3 : w43.cell? ⟨gb227, 3, none⟩ = some (.int .i64 0) := (blk_cell BK227.out 3).trans rfl; have hfz46_0 := blk_frozen BK227.out 0; have hfz46_1 := blk_frozen BK227.out 1; have hfz46_2 := blk_frozen BK227.out 2; have hfz46_3 := blk_frozen BK227.out 3))
    have n0_ : Aside0 (((((w43.setCell ⟨gb227, 0, none⟩ (.int .i64 t222)).setCell ⟨gb227, 1, none⟩ (.int .i64 t223)).setCell ⟨gb227, 2, none⟩ (.int .i64 t224)).setCell ⟨gb227, 3, none⟩ (.int .i64 t225)).heap[gb219]? = some (.cells #[.int .i64 a1_0, .int .i64 a1_1, .int .i64 a1_2, .int .i64 a1_3] 33 (0, 0))) := ⟨by (with_reducible repeat first | apply blk_drewN | apply blk_drew | apply blk_alloc); refine blk_far ?_ NB219_227.out _; (with_reducible repeat first | apply blk_drewN | apply blk_drew | apply blk_alloc); refine blk_far ?_ NB219_227.out _; (with_reducible repeat first | apply blk_drewN | apply blk_drew | apply blk_alloc); refine blk_far ?_ NB219_227.out _; (with_reducible repeat first | apply blk_drewN | apply blk_drew | apply blk_alloc); refine blk_far ?_ NB219_227.out _; (with_reducible repeat first | apply blk_drewN | apply blk_drew | apply blk_alloc); exact BK219.out⟩
    have n1_ : Aside0 (((((w43.setCell ⟨gb227, 0, none⟩ (.int .i64 t222)).setCell ⟨gb227, 1, none⟩ (.int .i64 t223)).setCell ⟨gb227, 2, none⟩ (.int .i64 t224)).setCell ⟨gb227, 3, none⟩ (.int .i64 t225)).heap[gb220]? = some (.cells #[.int .i64 0, .int .i64 0, .int .i64 0, .int .i64 0] 33 (0, 0))) := ⟨by (with_reducible repeat first | apply blk_drewN | apply blk_drew | apply blk_alloc); refine blk_far ?_ NB220_227.out _; (with_reducible repeat first | apply blk_drewN | apply blk_drew | apply blk_alloc); refine blk_far ?_ NB220_227.out _; (with_reducible repeat first | apply blk_drewN | apply blk_drew | apply blk_alloc); refine blk_far ?_ NB220_227.out _; (with_reducible repeat first | apply blk_drewN | apply blk_drew | apply blk_alloc); refine blk_far ?_ NB220_227.out _; (with_reducible repeat first | apply blk_drewN | apply blk_drew | apply blk_alloc); exact BK220.out⟩
    have n2_ : Aside0 (((((w43.setCell ⟨gb227, 0, none⟩ (.int .i64 t222)).setCell ⟨gb227, 1, none⟩ (.int .i64 t223)).setCell ⟨gb227, 2, none⟩ (.int .i64 t224)).setCell ⟨gb227, 3, none⟩ (.int .i64 t225)).heap[gb227]? = some (.cells #[.int .i64 t222, .int .i64 t223, .int .i64 t224, .int .i64 t225] 33 (0, 0))) := ⟨by (with_reducible repeat first | apply blk_drewN | apply blk_drew | apply blk_alloc); refine blk_put (cs := #[.int .i64 t222, .int .i64 t223, .int .i64 t224, .int .i64 0]) ?_ 3 _ rfl; (with_reducible repeat first | apply blk_drewN | apply blk_drew | apply blk_alloc); refine blk_put (cs := #[.int .i64 t222, .int .i64 t223, .int .i64 0, .int .i64 0]) ?_ 2 _ rfl; (with_reducible repeat first | apply blk_drewN | apply blk_drew | apply blk_alloc); refine blk_put (cs := #[.int .i64 t222, .int .i64 0, .int .i64 0, .int .i64 0]) ?_ 1 _ rfl; (with_reducible repeat first | apply blk_drewN | apply blk_drew | apply blk_alloc); refine blk_put (cs := #[.int .i64 0, .int .i64 0, .int .i64 0, .int .i64 0]) ?_ 0 _ rfl; (with_reducible repeat first | apply blk_drewN | apply blk_drew | apply blk_alloc); exact BK227.out⟩
    have n3_ : Aside0 (Below w.heap.size w ((((w43.setCell ⟨gb227, 0, none⟩ (.int .i64 t222)).setCell ⟨gb227, 1, none⟩ (.int .i64 t223)).setCell ⟨gb227, 2, none⟩ (.int .i64 t224)).setCell ⟨gb227, 3, none⟩ (.int .i64 t225))) := bw_ HB
    (try clear BK219)
    (try clear BK220)
    (try clear BK227)
    (try clear HB)
    generalize ((((w43.setCell ⟨gb227, 0, none⟩ (.int .i64 t222)).setCell ⟨gb227, 1, none⟩ (.int .i64 t223)).setCell ⟨gb227, 2, none⟩ (.int .i64 t224)).setCell ⟨gb227, 3, none⟩ (.int .i64 t225)) = w47 at n0_ n1_ n2_ n3_ ⊢
    have BK219 := n0_
    have BK220 := n1_
    have BK227 := n2_
    have HB := n3_
    clear n0_ n1_ n2_ n3_
    replace BK219 := Aside0.mk (blk_drew BK219.out)
    replace BK220 := Aside0.mk (blk_drew BK220.out)
    replace BK227 := Aside0.mk (blk_drew BK227.out)
    replace HB := Aside0.mk (below_drew1 HB.out)
    refine start_ (n := 10) (S := fun w' => w'.cell? ⟨gb227, 0, none⟩ = some (.int .i64 t222) ∧ w'.cell? ⟨gb227, 1, none⟩ = some (.int .i64 t223) ∧ w'.cell? ⟨gb227, 2, none⟩ = some (.int .i64 t224) ∧ w'.cell? ⟨gb227, 3, none⟩ = some (.int .i64 t225) ∧ w'.cell? ⟨gb219, 0, none⟩ = some (.int .i64 a1_0) ∧ w'.cell? ⟨gb219, 1, none⟩ = some (.int .i64 a1_1) ∧ w'.cell? ⟨gb219, 2, none⟩ = some (.int .i64 a1_2) ∧ w'.cell? ⟨gb219, 3, none⟩ = some (.int .i64 a1_3)) (ds := []) #[false, false, false, false, false, false, false, false, false, false] (by kernel_rfl) rfl rfl ⟨(blk_cell BK227.out 0).trans rfl, (blk_cell BK227.out 1).trans rfl, (blk_cell BK227.out 2).trans rfl, (blk_cell BK227.out 3).trans rfl, (blk_cell BK219.out 0).trans rfl, (blk_cell BK219.out 1).trans rfl, (blk_cell BK219.out 2).trans rfl, (blk_cell BK219.out 3).trans rfl⟩ (fun hHeld => ?_); refine with_tabW spec_UnitPart.tab7 spec_UnitPart.bits7 (fun HT_ HW_ => ?_)
    generalize w47.drew = w48 at BK219 BK220 BK227 HB hHeld ⊢
    refine ta_ HT_ HW_ 0 (some 28) #[true, false, false, false, false, false, false, false, false, false] hHeld ?_ (hy := by rintro w' ⟨s0, s1, s2, s3, s4, s5, s6, s7⟩; go_simp; with_reducible rfl)
    refine ta_ HT_ HW_ 2 (some 30) #[true, false, true, false, false, false, false, false, false, false] hHeld ?_ (hy := by rintro w' ⟨s0, s1, s2, s3, s4, s5, s6, s7⟩; go_simp; with_reducible rfl)
    refine join_ (σ := Nat) 2 #[true, true, true, true, true, true, true, true, false, false] (fun s_ => [(29, .agg #[.int .i64 t228, .int .i64 t229, .int .i64 t230, .int .i64 t231]), (31, .tuple #[.agg #[.int .i64 t232, .int .i64 t233, .int .i64 t234, .int .i64 t235], .bool false]), (9, .pointer (some ⟨s_, 0, none⟩)), (27, .tuple #[.agg #[.int .i64 t232, .int .i64 t233, .int .i64 t234, .int .i64 t235], .bool false]), (32, .agg #[.int .i64 t232, .int .i64 t233, .int .i64 t234, .int .i64 t235]), (33, .bool false)]) (fun s_ w' => (w'.cell? ⟨gb227, 0, none⟩ = some (.int .i64 t222) ∧ w'.cell? ⟨gb227, 1, none⟩ = some (.int .i64 t223) ∧ w'.cell? ⟨gb227, 2, none⟩ = some (.int .i64 t224) ∧ w'.cell? ⟨gb227, 3, none⟩ = some (.int .i64 t225) ∧ w'.cell? ⟨gb219, 0, none⟩ = some (.int .i64 a1_0) ∧ w'.cell? ⟨gb219, 1, none⟩ = some (.int .i64 a1_1) ∧ w'.cell? ⟨gb219, 2, none⟩ = some (.int .i64 a1_2) ∧ w'.cell? ⟨gb219, 3, none⟩ = some (.int .i64 a1_3)) ∧ (w'.heap[gb219]? = some (.cells #[.int .i64 a1_0, .int .i64 a1_1, .int .i64 a1_2, .int .i64 a1_3] 33 (0, 0))) ∧ (w'.heap[gb220]? = some (.cells #[.int .i64 0, .int .i64 0, .int .i64 0, .int .i64 0] 33 (0, 0))) ∧ (w'.heap[gb227]? = some (.cells #[.int .i64 t222, .int .i64 t223, .int .i64 t224, .int .i64 t225] 33 (0, 0))) ∧ (w'.heap[s_]? = some (.cells #[.int .i64 0, .int .i64 0, .int .i64 0, .int .i64 0] 33 (0, 0))) ∧ (w.heap.size ≤ s_) ∧ (w.heap.size ≤ s_) ∧ (gb219 ≠ s_) ∧ (s_ ≠ gb219) ∧ (gb220 ≠ s_) ∧ (s_ ≠ gb220) ∧ (gb227 ≠ s_) ∧ (s_ ≠ gb227) ∧ (Below w.heap.size w w')) ?_ ?_
    rotate_left
    ·intro hCont
     refine two_ (i := 1) (j := 7) (Ni := some 29) (Nj := some 9) #[true, true, true, false, false, false, false, false, false, false] #[true, false, true, false, false, false, false, true, false, false] rfl rfl rfl rfl (two_of HT_.out (by kernel_rfl)) (by decide) (by decide) (fun K hK => ?_) (fun K hK => ?_)
     ·skip
      refine goes_ Try.func49 (by kernel_rfl) rfl #[.agg #[.int .i64 t222, .int .i64 t223, .int .i64 t224, .int .i64 t225]] (by rfl) rfl rfl (by (try simp only [List.map_toArray, List.map_cons, List.map_nil]); first | done | rfl | (simp only [List.length_drop, List.length_take]; rfl)) ?_
      with_reducible refine (spec_l04Inverse.calls k t222 t223 t224 t225 t228 t229 t230 t231 _ A7.out).mono ?_
      rintro e w49 ⟨rfl, hb⟩
      refine ⟨_, rfl, ?_⟩
      replace BK219 := bb_ BK219 hb
      replace BK220 := bb_ BK220 hb
      replace BK227 := bb_ BK227 hb
      replace HB := bt_ HB hb
      (try clear hb)
      (try clear hb2)
      (try clear hk)
      (try clear hi)
      refine hK.out _ _ ⟨(blk_cell BK227.out 0).trans rfl, (blk_cell BK227.out 1).trans rfl, (blk_cell BK227.out 2).trans rfl, (blk_cell BK227.out 3).trans rfl, (blk_cell BK219.out 0).trans rfl, (blk_cell BK219.out 1).trans rfl, (blk_cell BK219.out 2).trans rfl, (blk_cell BK219.out 3).trans rfl⟩ (fun hHeld => ?_)
      clear hK K
      refine norm_ (a' := ?_) ?_ ?_
      rotate_left
      ·show Act.put _ (some 29) _ = _
       simp only [Act.put, lstS, lstZ, lstC, i64_w, i32_w]
       rfl
      refine two_ (i := 3) (j := 7) (Ni := some 31) (Nj := some 9) #[true, true, true, true, false, false, false, false, false, false] #[true, true, true, false, false, false, false, true, false, false] rfl rfl rfl rfl (two_of HT_.out (by kernel_rfl)) (by decide) (by decide) (fun K hK => ?_) (fun K hK => ?_)
      ·skip
       refine goes_ Try.func48 (by kernel_rfl) rfl #[.agg #[.int .i64 t228, .int .i64 t229, .int .i64 t230, .int .i64 t231], .agg #[.int .i64 a1_0, .int .i64 a1_1, .int .i64 a1_2, .int .i64 a1_3]] (by rfl) rfl rfl (by (try simp only [List.map_toArray, List.map_cons, List.map_nil]); first | done | rfl | (simp only [List.length_drop, List.length_take]; rfl)) ?_
       with_reducible refine (spec_l04Times.calls k t228 t229 t230 t231 a1_0 a1_1 a1_2 a1_3 t232 t233 t234 t235 false _ A8.out).mono ?_
       rintro e w50 ⟨rfl, hb⟩
       refine ⟨_, rfl, ?_⟩
       replace BK219 := bb_ BK219 hb
       replace BK220 := bb_ BK220 hb
       replace BK227 := bb_ BK227 hb
       replace HB := bt_ HB hb
       (try clear hb)
       (try clear hb2)
       (try clear hk)
       (try clear hi)
       refine hK.out _ _ ⟨(blk_cell BK227.out 0).trans rfl, (blk_cell BK227.out 1).trans rfl, (blk_cell BK227.out 2).trans rfl, (blk_cell BK227.out 3).trans rfl, (blk_cell BK219.out 0).trans rfl, (blk_cell BK219.out 1).trans rfl, (blk_cell BK219.out 2).trans rfl, (blk_cell BK219.out 3).trans rfl⟩ (fun hHeld => ?_)
       clear hK K
       refine norm_ (a' := ?_) ?_ ?_
       rotate_left
       ·show Act.put _ (some 31) _ = _
        simp only [Act.put, lstS, lstZ, lstC, i64_w, i32_w]
        rfl
       refine pu_ HT_ 4 (some 27) #[true, true, true, true, true, false, false, false, false, false] ?_
       refine pu_ HT_ 5 (some 32) #[true, true, true, true, true, true, false, false, false, false] ?_
       refine pu_ HT_ 6 (some 33) #[true, true, true, true, true, true, true, false, false, false] ?_
       refine one_ (i := 7) (N := some 9) #[true, true, true, true, true, true, true, true, false, false] rfl rfl (one_of HT_.out (by kernel_rfl)) (by decide) (fun K hK => ?_)
       refine box_step ?hg (N := 9) ?hd (cs := #[.int .i64 0, .int .i64 0, .int .i64 0, .int .i64 0]) (t := 33) ?hr ?_; (case hd => rfl); (case hg => rfl); (case hr => first | (go_simp; done) | (go_simp; rfl))
       intro gb237 hg w51 hbox hb
       have BK237 := Aside0.mk (hbox)
       have GW237 := bs_ HB hg
       have GE237 := bs_ HB hg
       have NB219_237 := bm_ BK219 hg
       have NB237_219 := bn_ BK219 hg
       have NB220_237 := bm_ BK220 hg
       have NB237_220 := bn_ BK220 hg
       have NB227_237 := bm_ BK227 hg
       have NB237_227 := bn_ BK227 hg
       replace BK219 := bb_ BK219 hb
       replace BK220 := bb_ BK220 hb
       replace BK227 := bb_ BK227 hb
       replace HB := bt_ HB hb
       clear hb hbox hg
       refine hK.out _ _ ⟨(blk_cell BK227.out 0).trans rfl, (blk_cell BK227.out 1).trans rfl, (blk_cell BK227.out 2).trans rfl, (blk_cell BK227.out 3).trans rfl, (blk_cell BK219.out 0).trans rfl, (blk_cell BK219.out 1).trans rfl, (blk_cell BK219.out 2).trans rfl, (blk_cell BK219.out 3).trans rfl⟩ (fun hHeld => ?_)
       clear hK K
       refine norm_ (a' := ?_) ?_ ?_
       rotate_left
       ·show Act.put _ (some 9) _ = _
        simp only [Act.put, lstS, lstZ, lstC, i64_w, i32_w]
        rfl
       exact norm_ (by simp only [putAll, Act.put, lstS, lstZ, lstC]) (hCont (gb237) _ ⟨hHeld, (bl_ BK219).out, (bl_ BK220).out, (bl_ BK227).out, (bl_ BK237).out, GW237.out, GE237.out, NB219_237.out, NB237_219.out, NB220_237.out, NB237_220.out, NB227_237.out, NB237_227.out, (bw_ HB).out⟩)
      ·skip
       refine box_step ?hg (N := 9) ?hd (cs := #[.int .i64 0, .int .i64 0, .int .i64 0, .int .i64 0]) (t := 33) ?hr ?_; (case hd => rfl); (case hg => rfl); (case hr => first | (go_simp; done) | (go_simp; rfl))
       intro gb237 hg w50 hbox hb
       have BK237 := Aside0.mk (hbox)
       have GW237 := bs_ HB hg
       have GE237 := bs_ HB hg
       have NB219_237 := bm_ BK219 hg
       have NB237_219 := bn_ BK219 hg
       have NB220_237 := bm_ BK220 hg
       have NB237_220 := bn_ BK220 hg
       have NB227_237 := bm_ BK227 hg
       have NB237_227 := bn_ BK227 hg
       replace BK219 := bb_ BK219 hb
       replace BK220 := bb_ BK220 hb
       replace BK227 := bb_ BK227 hb
       replace HB := bt_ HB hb
       clear hb hbox hg
       refine hK.out _ _ ⟨(blk_cell BK227.out 0).trans rfl, (blk_cell BK227.out 1).trans rfl, (blk_cell BK227.out 2).trans rfl, (blk_cell BK227.out 3).trans rfl, (blk_cell BK219.out 0).trans rfl, (blk_cell BK219.out 1).trans rfl, (blk_cell BK219.out 2).trans rfl, (blk_cell BK219.out 3).trans rfl⟩ (fun hHeld => ?_)
       clear hK K
       refine norm_ (a' := ?_) ?_ ?_
       rotate_left
       ·show Act.put _ (some 9) _ = _
        simp only [Act.put, lstS, lstZ, lstC, i64_w, i32_w]
        rfl
       refine one_ (i := 3) (N := some 31) #[true, true, true, true, false, false, false, true, false, false] rfl rfl (one_of HT_.out (by kernel_rfl)) (by decide) (fun K hK => ?_)
       refine goes_ Try.func48 (by kernel_rfl) rfl #[.agg #[.int .i64 t228, .int .i64 t229, .int .i64 t230, .int .i64 t231], .agg #[.int .i64 a1_0, .int .i64 a1_1, .int .i64 a1_2, .int .i64 a1_3]] (by rfl) rfl rfl (by (try simp only [List.map_toArray, List.map_cons, List.map_nil]); first | done | rfl | (simp only [List.length_drop, List.length_take]; rfl)) ?_
       with_reducible refine (spec_l04Times.calls k t228 t229 t230 t231 a1_0 a1_1 a1_2 a1_3 t232 t233 t234 t235 false _ A8.out).mono ?_
       rintro e w51 ⟨rfl, hb⟩
       refine ⟨_, rfl, ?_⟩
       replace BK219 := bb_ BK219 hb
       replace BK220 := bb_ BK220 hb
       replace BK227 := bb_ BK227 hb
       replace BK237 := bb_ BK237 hb
       replace HB := bt_ HB hb
       (try clear hb)
       (try clear hb2)
       (try clear hk)
       (try clear hi)
       refine hK.out _ _ ⟨(blk_cell BK227.out 0).trans rfl, (blk_cell BK227.out 1).trans rfl, (blk_cell BK227.out 2).trans rfl, (blk_cell BK227.out 3).trans rfl, (blk_cell BK219.out 0).trans rfl, (blk_cell BK219.out 1).trans rfl, (blk_cell BK219.out 2).trans rfl, (blk_cell BK219.out 3).trans rfl⟩ (fun hHeld => ?_)
       clear hK K
       refine norm_ (a' := ?_) ?_ ?_
       rotate_left
       ·show Act.put _ (some 31) _ = _
        simp only [Act.put, lstS, lstZ, lstC, i64_w, i32_w]
        rfl
       refine pu_ HT_ 4 (some 27) #[true, true, true, true, true, false, false, true, false, false] ?_
       refine pu_ HT_ 5 (some 32) #[true, true, true, true, true, true, false, true, false, false] ?_
       refine pu_ HT_ 6 (some 33) #[true, true, true, true, true, true, true, true, false, false] ?_
       exact norm_ (by simp only [putAll, Act.put, lstS, lstZ, lstC]) (hCont (gb237) _ ⟨hHeld, (bl_ BK219).out, (bl_ BK220).out, (bl_ BK227).out, (bl_ BK237).out, GW237.out, GE237.out, NB219_237.out, NB237_219.out, NB220_237.out, NB237_220.out, NB227_237.out, NB237_227.out, (bw_ HB).out⟩)
     ·skip
      refine box_step ?hg (N := 9) ?hd (cs := #[.int .i64 0, .int .i64 0, .int .i64 0, .int .i64 0]) (t := 33) ?hr ?_; (case hd => rfl); (case hg => rfl); (case hr => first | (go_simp; done) | (go_simp; rfl))
      intro gb237 hg w49 hbox hb
      have BK237 := Aside0.mk (hbox)
      have GW237 := bs_ HB hg
      have GE237 := bs_ HB hg
      have NB219_237 := bm_ BK219 hg
      have NB237_219 := bn_ BK219 hg
      have NB220_237 := bm_ BK220 hg
      have NB237_220 := bn_ BK220 hg
      have NB227_237 := bm_ BK227 hg
      have NB237_227 := bn_ BK227 hg
      replace BK219 := bb_ BK219 hb
      replace BK220 := bb_ BK220 hb
      replace BK227 := bb_ BK227 hb
      replace HB := bt_ HB hb
      clear hb hbox hg
      refine hK.out _ _ ⟨(blk_cell BK227.out 0).trans rfl, (blk_cell BK227.out 1).trans rfl, (blk_cell BK227.out 2).trans rfl, (blk_cell BK227.out 3).trans rfl, (blk_cell BK219.out 0).trans rfl, (blk_cell BK219.out 1).trans rfl, (blk_cell BK219.out 2).trans rfl, (blk_cell BK219.out 3).trans rfl⟩ (fun hHeld => ?_)
      clear hK K
      refine norm_ (a' := ?_) ?_ ?_
      rotate_left
      ·show Act.put _ (some 9) _ = _
       simp only [Act.put, lstS, lstZ, lstC, i64_w, i32_w]
       rfl
      refine one_ (i := 1) (N := some 29) #[true, true, true, false, false, false, false, true, false, false] rfl rfl (one_of HT_.out (by kernel_rfl)) (by decide) (fun K hK => ?_)
      refine goes_ Try.func49 (by kernel_rfl) rfl #[.agg #[.int .i64 t222, .int .i64 t223, .int .i64 t224, .int .i64 t225]] (by rfl) rfl rfl (by (try simp only [List.map_toArray, List.map_cons, List.map_nil]); first | done | rfl | (simp only [List.length_drop, List.length_take]; rfl)) ?_
      with_reducible refine (spec_l04Inverse.calls k t222 t223 t224 t225 t228 t229 t230 t231 _ A7.out).mono ?_
      rintro e w50 ⟨rfl, hb⟩
      refine ⟨_, rfl, ?_⟩
      replace BK219 := bb_ BK219 hb
      replace BK220 := bb_ BK220 hb
      replace BK227 := bb_ BK227 hb
      replace BK237 := bb_ BK237 hb
      replace HB := bt_ HB hb
      (try clear hb)
      (try clear hb2)
      (try clear hk)
      (try clear hi)
      refine hK.out _ _ ⟨(blk_cell BK227.out 0).trans rfl, (blk_cell BK227.out 1).trans rfl, (blk_cell BK227.out 2).trans rfl, (blk_cell BK227.out 3).trans rfl, (blk_cell BK219.out 0).trans rfl, (blk_cell BK219.out 1).trans rfl, (blk_cell BK219.out 2).trans rfl, (blk_cell BK219.out 3).trans rfl⟩ (fun hHeld => ?_)
      clear hK K
      refine norm_ (a' := ?_) ?_ ?_
      rotate_left
      ·show Act.put _ (some 29) _ = _
       simp only [Act.put, lstS, lstZ, lstC, i64_w, i32_w]
       rfl
      refine one_ (i := 3) (N := some 31) #[true, true, true, true, false, false, false, true, false, false] rfl rfl (one_of HT_.out (by kernel_rfl)) (by decide) (fun K hK => ?_)
      refine goes_ Try.func48 (by kernel_rfl) rfl #[.agg #[.int .i64 t228, .int .i64 t229, .int .i64 t230, .int .i64 t231], .agg #[.int .i64 a1_0, .int .i64 a1_1, .int .i64 a1_2, .int .i64 a1_3]] (by rfl) rfl rfl (by (try simp only [List.map_toArray, List.map_cons, List.map_nil]); first | done | rfl | (simp only [List.length_drop, List.length_take]; rfl)) ?_
      with_reducible refine (spec_l04Times.calls k t228 t229 t230 t231 a1_0 a1_1 a1_2 a1_3 t232 t233 t234 t235 false _ A8.out).mono ?_
      rintro e w51 ⟨rfl, hb⟩
      refine ⟨_, rfl, ?_⟩
      replace BK219 := bb_ BK219 hb
      replace BK220 := bb_ BK220 hb
      replace BK227 := bb_ BK227 hb
      replace BK237 := bb_ BK237 hb
      replace HB := bt_ HB hb
      (try clear hb)
      (try clear hb2)
      (try clear hk)
      (try clear hi)
      refine hK.out _ _ ⟨(blk_cell BK227.out 0).trans rfl, (blk_cell BK227.out 1).trans rfl, (blk_cell BK227.out 2).trans rfl, (blk_cell BK227.out 3).trans rfl, (blk_cell BK219.out 0).trans rfl, (blk_cell BK219.out 1).trans rfl, (blk_cell BK219.out 2).trans rfl, (blk_cell BK219.out 3).trans rfl⟩ (fun hHeld => ?_)
      clear hK K
      refine norm_ (a' := ?_) ?_ ?_
      rotate_left
      ·show Act.put _ (some 31) _ = _
       simp only [Act.put, lstS, lstZ, lstC, i64_w, i32_w]
       rfl
      refine pu_ HT_ 4 (some 27) #[true, true, true, true, true, false, false, true, false, false] ?_
      refine pu_ HT_ 5 (some 32) #[true, true, true, true, true, true, false, true, false, false] ?_
      refine pu_ HT_ 6 (some 33) #[true, true, true, true, true, true, true, true, false, false] ?_
      exact norm_ (by simp only [putAll, Act.put, lstS, lstZ, lstC]) (hCont (gb237) _ ⟨hHeld, (bl_ BK219).out, (bl_ BK220).out, (bl_ BK227).out, (bl_ BK237).out, GW237.out, GE237.out, NB219_237.out, NB237_219.out, NB220_237.out, NB237_220.out, NB227_237.out, NB237_227.out, (bw_ HB).out⟩)
    rintro gb237 w52 ⟨hS_, h0_, h1_, h2_, h3_, h4_, h5_, h6_, h7_, h8_, h9_, h10_, h11_, h12_⟩
    have n0_ : Aside0 (w52.heap[gb219]? = some (.cells #[.int .i64 a1_0, .int .i64 a1_1, .int .i64 a1_2, .int .i64 a1_3] 33 (0, 0))) := ⟨h0_⟩
    have n1_ : Aside0 (w52.heap[gb220]? = some (.cells #[.int .i64 0, .int .i64 0, .int .i64 0, .int .i64 0] 33 (0, 0))) := ⟨h1_⟩
    have n2_ : Aside0 (w52.heap[gb227]? = some (.cells #[.int .i64 t222, .int .i64 t223, .int .i64 t224, .int .i64 t225] 33 (0, 0))) := ⟨h2_⟩
    have n3_ : Aside0 (w52.heap[gb237]? = some (.cells #[.int .i64 0, .int .i64 0, .int .i64 0, .int .i64 0] 33 (0, 0))) := ⟨h3_⟩
    have n4_ : Aside0 (w.heap.size ≤ gb237) := ⟨h4_⟩
    have n5_ : Aside0 (w.heap.size ≤ gb237) := ⟨h5_⟩
    have n6_ : Aside0 (gb219 ≠ gb237) := ⟨h6_⟩
    have n7_ : Aside0 (gb237 ≠ gb219) := ⟨h7_⟩
    have n8_ : Aside0 (gb220 ≠ gb237) := ⟨h8_⟩
    have n9_ : Aside0 (gb237 ≠ gb220) := ⟨h9_⟩
    have n10_ : Aside0 (gb227 ≠ gb237) := ⟨h10_⟩
    have n11_ : Aside0 (gb237 ≠ gb227) := ⟨h11_⟩
    have n12_ : Aside0 (Below w.heap.size w w52) := ⟨h12_⟩
    clear BK219
    clear BK220
    clear BK227
    clear HB
    clear h0_ h1_ h2_ h3_ h4_ h5_ h6_ h7_ h8_ h9_ h10_ h11_ h12_
    have BK219 := n0_
    have BK220 := n1_
    have BK227 := n2_
    have BK237 := n3_
    have GW237 := n4_
    have GE237 := n5_
    have NB219_237 := n6_
    have NB237_219 := n7_
    have NB220_237 := n8_
    have NB237_220 := n9_
    have NB227_237 := n10_
    have NB237_227 := n11_
    have HB := n12_
    clear n0_ n1_ n2_ n3_ n4_ n5_ n6_ n7_ n8_ n9_ n10_ n11_ n12_
    have hHeld : w52.cell? ⟨gb227, 0, none⟩ = some (.int .i64 t222) ∧ w52.cell? ⟨gb227, 1, none⟩ = some (.int .i64 t223) ∧ w52.cell? ⟨gb227, 2, none⟩ = some (.int .i64 t224) ∧ w52.cell? ⟨gb227, 3, none⟩ = some (.int .i64 t225) ∧ w52.cell? ⟨gb219, 0, none⟩ = some (.int .i64 a1_0) ∧ w52.cell? ⟨gb219, 1, none⟩ = some (.int .i64 a1_1) ∧ w52.cell? ⟨gb219, 2, none⟩ = some (.int .i64 a1_2) ∧ w52.cell? ⟨gb219, 3, none⟩ = some (.int .i64 a1_3) := hS_
    refine norm_ (a' := ?_) ?_ ?_
    rotate_left
    ·simp only [putAll, Act.put, lstS, lstZ, lstC]
     rfl
    refine one_ (i := 8) (N := none) #[true, true, true, true, true, true, true, true, true, false] rfl rfl (one_of HT_.out (by kernel_rfl)) (by decide) (fun K hK => ?_)
    have hs53 : w52.cell? ⟨gb237, 0, none⟩ = some (.int .i64 0) := (blk_cell BK237.out 0).trans rfl
    have hfs53 := blk_frozen BK237.out 0
    have hns53_0 := NB219_237.out
    have hns53_1 := NB220_237.out
    have hns53_2 := NB227_237.out
    have hms53_0 := NB237_219.out
    have hms53_1 := NB237_220.out
    have hms53_2 := NB237_227.out
    have hs54 : w52.cell? ⟨gb237, 1, none⟩ = some (.int .i64 0) := (blk_cell BK237.out 1).trans rfl
    have hfs54 := blk_frozen BK237.out 1
    have hns54_0 := NB219_237.out
    have hns54_1 := NB220_237.out
    have hns54_2 := NB227_237.out
    have hms54_0 := NB237_219.out
    have hms54_1 := NB237_220.out
    have hms54_2 := NB237_227.out
    have hs55 : w52.cell? ⟨gb237, 2, none⟩ = some (.int .i64 0) := (blk_cell BK237.out 2).trans rfl
    have hfs55 := blk_frozen BK237.out 2
    have hns55_0 := NB219_237.out
    have hns55_1 := NB220_237.out
    have hns55_2 := NB227_237.out
    have hms55_0 := NB237_219.out
    have hms55_1 := NB237_220.out
    have hms55_2 := NB237_227.out
    have hs56 : w52.cell? ⟨gb237, 3, none⟩ = some (.int .i64 0) := (blk_cell BK237.out 3).trans rfl
    have hfs56 := blk_frozen BK237.out 3
    have hns56_0 := NB219_237.out
    have hns56_1 := NB220_237.out
    have hns56_2 := NB227_237.out
    have hms56_0 := NB237_219.out
    have hms56_1 := NB237_220.out
    have hms56_2 := NB237_227.out
    refine skip_ (w1 := ?_) (by rfl) rfl ?_ ?_
    rotate_left
    ·go_simp
     rfl
    refine hK.out _ _ ⟨((cell_far (p := ⟨gb237, _, none⟩) NB227_237.out _).trans (((cell_far (p := ⟨gb237, _, none⟩) NB227_237.out _).trans (((cell_far (p := ⟨gb237, _, none⟩) NB227_237.out _).trans (((cell_far (p := ⟨gb237, _, none⟩) NB227_237.out _).trans (hHeld.1)))))))), ((cell_far (p := ⟨gb237, _, none⟩) NB227_237.out _).trans (((cell_far (p := ⟨gb237, _, none⟩) NB227_237.out _).trans (((cell_far (p := ⟨gb237, _, none⟩) NB227_237.out _).trans (((cell_far (p := ⟨gb237, _, none⟩) NB227_237.out _).trans (hHeld.2.1)))))))), ((cell_far (p := ⟨gb237, _, none⟩) NB227_237.out _).trans (((cell_far (p := ⟨gb237, _, none⟩) NB227_237.out _).trans (((cell_far (p := ⟨gb237, _, none⟩) NB227_237.out _).trans (((cell_far (p := ⟨gb237, _, none⟩) NB227_237.out _).trans (hHeld.2.2.1)))))))), ((cell_far (p := ⟨gb237, _, none⟩) NB227_237.out _).trans (((cell_far (p := ⟨gb237, _, none⟩) NB227_237.out _).trans (((cell_far (p := ⟨gb237, _, none⟩) NB227_237.out _).trans (((cell_far (p := ⟨gb237, _, none⟩) NB227_237.out _).trans (hHeld.2.2.2.1)))))))), ((cell_far (p := ⟨gb237, _, none⟩) NB219_237.out _).trans (((cell_far (p := ⟨gb237, _, none⟩) NB219_237.out _).trans (((cell_far (p := ⟨gb237, _, none⟩) NB219_237.out _).trans (((cell_far (p := ⟨gb237, _, none⟩) NB219_237.out _).trans (hHeld.2.2.2.2.1)))))))), ((cell_far (p := ⟨gb237, _, none⟩) NB219_237.out _).trans (((cell_far (p := ⟨gb237, _, none⟩) NB219_237.out _).trans (((cell_far (p := ⟨gb237, _, none⟩) NB219_237.out _).trans (((cell_far (p := ⟨gb237, _, none⟩) NB219_237.out _).trans (hHeld.2.2.2.2.2.1)))))))), ((cell_far (p := ⟨gb237, _, none⟩) NB219_237.out _).trans (((cell_far (p := ⟨gb237, _, none⟩) NB219_237.out _).trans (((cell_far (p := ⟨gb237, _, none⟩) NB219_237.out _).trans (((cell_far (p := ⟨gb237, _, none⟩) NB219_237.out _).trans (hHeld.2.2.2.2.2.2.1)))))))), ((cell_far (p := ⟨gb237, _, none⟩) NB219_237.out _).trans (((cell_far (p := ⟨gb237, _, none⟩) NB219_237.out _).trans (((cell_far (p := ⟨gb237, _, none⟩) NB219_237.out _).trans (((cell_far (p := ⟨gb237, _, none⟩) NB219_237.out _).trans (hHeld.2.2.2.2.2.2.2))))))))⟩ (fun hHeld => ?_)
    clear hK K
    refine pu_ HT_ 9 (some 10) #[true, true, true, true, true, true, true, true, true, true] ?_
    refine done_ (done_of HT_.out (by kernel_rfl)) ?_
    have hnb57 := NB220_237.out
    have hnc57 := NB237_220.out
    have hcz58_0 : w52.cell? ⟨gb220, 0, none⟩ = some (.int .i64 0) := (blk_cell BK220.out 0).trans rfl
    have hcz58_1 : w52.cell? ⟨gb220, 1, none⟩ = some (.int .i64 0) := (blk_cell BK220.out 1).trans rfl
    have hcz58_2 : w52.cell? ⟨gb220, 2, none⟩ = some (.int .i64 0) := (blk_cell BK220.out 2).trans rfl
    have hcz58_3 : w52.cell? ⟨gb220, 3, none⟩ = some (.int .i64 0) := (blk_cell BK220.out 3).trans rfl
    have hfz58_0 := blk_frozen BK220.out 0
    have hfz58_1 := blk_frozen BK220.out 1
    have hfz58_2 := blk_frozen BK220.out 2
    have hfz58_3 := blk_frozen BK220.out 3
    try go_wp2
    refine bodyPost_ret (results_ct rfl _ _ gb220 33 #[.int .i64 0, .int .i64 0, .int .i64 0, .int .i64 0] (0, 0) _ rfl (by (with_reducible repeat first | apply blk_drewN | apply blk_drew | apply blk_alloc); refine blk_put (cs := #[.int .i64 0, .int .i64 0, .int .i64 0, .int .i64 0]) ?_ 3 _ rfl; (with_reducible repeat first | apply blk_drewN | apply blk_drew | apply blk_alloc); refine blk_put (cs := #[.int .i64 0, .int .i64 0, .int .i64 0, .int .i64 0]) ?_ 2 _ rfl; (with_reducible repeat first | apply blk_drewN | apply blk_drew | apply blk_alloc); refine blk_put (cs := #[.int .i64 0, .int .i64 0, .int .i64 0, .int .i64 0]) ?_ 1 _ rfl; (with_reducible repeat first | apply blk_drewN | apply blk_drew | apply blk_alloc); refine blk_put (cs := #[.int .i64 0, .int .i64 0, .int .i64 0, .int .i64 0]) ?_ 0 _ rfl; (with_reducible repeat first | apply blk_drewN | apply blk_drew | apply blk_alloc); refine blk_far ?_ NB220_237.out _; (with_reducible repeat first | apply blk_drewN | apply blk_drew | apply blk_alloc); refine blk_far ?_ NB220_237.out _; (with_reducible repeat first | apply blk_drewN | apply blk_drew | apply blk_alloc); refine blk_far ?_ NB220_237.out _; (with_reducible repeat first | apply blk_drewN | apply blk_drew | apply blk_alloc); refine blk_far ?_ NB220_237.out _; (with_reducible repeat first | apply blk_drewN | apply blk_drew | apply blk_alloc); exact BK220.out) Try.underlying33 rfl (by kernel_rfl)) rfl ?_
    exact ⟨by first | rfl | (simp [errW_none, errW_some] <;> rfl) | (simp [*, errW_none, errW_some] <;> rfl), by repeat (first | (with_reducible first | exact HB.out | apply below_alloc | apply pw_below_drewN | apply below_drew1 | refine below_set ?_ GE219.out | refine below_set ?_ GE220.out | refine below_set ?_ GE227.out | refine below_set ?_ GE237.out) | exact HB.out)⟩
  ·replace c6 := Bool.eq_false_iff.mpr c6
   subst c6
   have H1 : (some (0, 0, 0, 0, 3)) = some (r1, r2, r3, r4, r5) := by rw [if_neg (show ¬ (false = true) by decide)] at H; exact H
   clear H
   have H := H1
   clear H1
   simp only [Option.some.injEq, Prod.mk.injEq] at H
   obtain ⟨rfl, rfl, rfl, rfl, rfl⟩ := H
   go_enter Try.func17, Try.ntmps17
   go_wp2_with (first | ((with_reducible refine gate_dst (N := 3) rfl ?_); refine bx_ 3 #[.int .i64 a1_0, .int .i64 a1_1, .int .i64 a1_2, .int .i64 a1_3] 33 ?_; intro gb219 hg w59 hbox hb; have BK219 := Aside0.mk (hbox); have GW219 := bs_ HB hg; have GE219 := bs_ HB hg; replace HB := bt_ HB hb; clear hb hbox hg) | ((with_reducible refine gate_dst (N := 4) rfl ?_); refine bx_ 4 #[.int .i64 0, .int .i64 0, .int .i64 0, .int .i64 0] 33 ?_; intro gb220 hg w60 hbox hb; have BK220 := Aside0.mk (hbox); have GW220 := bs_ HB hg; have GE220 := bs_ HB hg; have NB219_220 := bm_ BK219 hg; have NB220_219 := bn_ BK219 hg; replace BK219 := bb_ BK219 hb; replace HB := bt_ HB hb; clear hb hbox hg; have hnb61 := NB219_220.out; have hnc61 := NB220_219.out; have hcz62_0 : w60.cell? ⟨gb219, 0, none⟩ = some (.int .i64 a1_0) := (blk_cell BK219.out 0).trans rfl; have hcz62_1 : w60.cell? ⟨gb219, 1, none⟩ = some (.int .i64 a1_1) := (blk_cell BK219.out 1).trans rfl; have hcz62_2 : w60.cell? ⟨gb219, 2, none⟩ = some (.int .i64 a1_2) := (blk_cell BK219.out 2).trans rfl; have hcz62_3 : w60.cell? ⟨gb219, 3, none⟩ = some (.int .i64 a1_3) := (blk_cell BK219.out 3).trans rfl; have hfz62_0 := blk_frozen BK219.out 0; have hfz62_1 := blk_frozen BK219.out 1; have hfz62_2 := blk_frozen BK219.out 2; have hfz62_3 := blk_frozen BK219.out 3) | ((with_reducible refine gate_callee (f := 42) rfl ?_); refine goesL_ (some 13) rfl rfl Try.func42 (by kernel_rfl) rfl #[.int .i64 a0, .agg #[.int .i64 a1_0, .int .i64 a1_1, .int .i64 a1_2, .int .i64 a1_3], .slice none 0 0] rfl (by (try simp only [List.map_toArray, List.map_cons, List.map_nil]); first | done | rfl | (simp only [List.length_drop, List.length_take]; rfl)) ?_; (refine (spec_l04Code.calls k a0 a1_0 a1_1 a1_2 a1_3 _ _ ([] : List (S28)) t221 _ ?side1 ?side2 A3.out).mono ?_); (case side1 => exact Kd.C_nil _ _); (case side2 => exact Nat.le_refl _); rintro e w63 ⟨rfl, hb⟩; refine ⟨_, rfl, ?_⟩; replace BK219 := bb_ BK219 hb; replace BK220 := bb_ BK220 hb; replace HB := bt_ HB hb; (try clear hb); (try clear hb2); (try clear hk); (try clear hi); have hcz64_0 : w63.cell? ⟨gb219, 0, none⟩ = some (.int .i64 a1_0) := (blk_cell BK219.out 0).trans rfl; have hcz64_1 : w63.cell? ⟨gb219, 1, none⟩ = some (.int .i64 a1_1) := (blk_cell BK219.out 1).trans rfl; have hcz64_2 : w63.cell? ⟨gb219, 2, none⟩ = some (.int .i64 a1_2) := (blk_cell BK219.out 2).trans rfl; have hcz64_3 : w63.cell? ⟨gb219, 3, none⟩ = some (.int .i64 a1_3) := (blk_cell BK219.out 3).trans rfl; have hfz64_0 := blk_frozen BK219.out 0; have hfz64_1 := blk_frozen BK219.out 1; have hfz64_2 := blk_frozen BK219.out 2; have hfz64_3 := blk_frozen BK219.out 3) | ((with_reducible refine gate_callee (f := 43) rfl ?_); refine goesL_ (some 21) rfl rfl Try.func43 (by kernel_rfl) rfl #[.int .i64 a0, .agg #[.int .i64 a1_0, .int .i64 a1_1, .int .i64 a1_2, .int .i64 a1_3]] rfl (by (try simp only [List.map_toArray, List.map_cons, List.map_nil]); first | done | rfl | (simp only [List.length_drop, List.length_take]; rfl)) ?_; (with_reducible refine (spec_l10Triangular.calls k a0 a1_0 a1_1 a1_2 a1_3 t222 t223 t224 t225 false _ A5.out).mono ?_); rintro e w65 ⟨rfl, hb⟩; refine ⟨_, rfl, ?_⟩; replace BK219 := bb_ BK219 hb; replace BK220 := bb_ BK220 hb; replace HB := bt_ HB hb; (try clear hb); (try clear hb2); (try clear hk); (try clear hi)) | ((with_reducible refine gate_dst (N := 7) rfl ?_); refine bx_ 7 #[.int .i64 0, .int .i64 0, .int .i64 0, .int .i64 0] 33 ?_; intro gb227 hg w66 hbox hb; have BK227 := Aside0.mk (hbox); have GW227 := bs_ HB hg; have GE227 := bs_ HB hg; have NB219_227 := bm_ BK219 hg; have NB227_219 := bn_ BK219 hg; have NB220_227 := bm_ BK220 hg; have NB227_220 := bn_ BK220 hg; replace BK219 := bb_ BK219 hb; replace BK220 := bb_ BK220 hb; replace HB := bt_ HB hb; clear hb hbox hg; have hnb67 := NB227_219.out; have hnc67 := NB219_227.out; have hnb68 := NB227_220.out; have hnc68 := NB220_227.out; have hcz69_0 : w66.cell? ⟨gb227, 0, none⟩ = some (.int .i64 0) := (blk_cell BK227.out 0).trans rfl; have hcz69_1 : w66.cell? ⟨gb227, 1, none⟩ = some (.int .i64 0) := (blk_cell BK227.out 1).trans rfl; have hcz69_2 : w66.cell? ⟨gb227, 2, none⟩ = some (.int .i64 0) := (blk_cell BK227.out 2).trans rfl; have hcz69_3 : w66.cell? ⟨gb227, 3, none⟩ = some (.int .i64 0) := (blk_cell BK227.out 3).trans rfl; have hfz69_0 := blk_frozen BK227.out 0; have hfz69_1 := blk_frozen BK227.out 1; have hfz69_2 := blk_frozen BK227.out 2; have hfz69_3 := blk_frozen BK227.out 3; have hcz70_0 : w66.cell? ⟨gb220, 0, none⟩ = some (.int .i64 0) := (blk_cell BK220.out 0).trans rfl; have hcz70_1 : w66.cell? ⟨gb220, 1, none⟩ = some (.int .i64 0) := (blk_cell BK220.out 1).trans rfl; have hcz70_2 : w66.cell? ⟨gb220, 2, none⟩ = some (.int .i64 0) := (blk_cell BK220.out 2).trans rfl; have hcz70_3 : w66.cell? ⟨gb220, 3, none⟩ = some (.int .i64 0) := (blk_cell BK220.out 3).trans rfl; have hfz70_0 := blk_frozen BK220.out 0; have hfz70_1 := blk_frozen BK220.out 1; have hfz70_2 := blk_frozen BK220.out 2; have hfz70_3 := blk_frozen BK220.out 3))
   refine bodyPost_ret (results_ct rfl _ _ gb220 33 #[.int .i64 0, .int .i64 0, .int .i64 0, .int .i64 0] (0, 0) _ rfl (by (with_reducible repeat first | apply blk_drewN | apply blk_drew | apply blk_alloc); refine blk_put (cs := #[.int .i64 0, .int .i64 0, .int .i64 0, .int .i64 0]) ?_ 3 _ rfl; (with_reducible repeat first | apply blk_drewN | apply blk_drew | apply blk_alloc); refine blk_put (cs := #[.int .i64 0, .int .i64 0, .int .i64 0, .int .i64 0]) ?_ 2 _ rfl; (with_reducible repeat first | apply blk_drewN | apply blk_drew | apply blk_alloc); refine blk_put (cs := #[.int .i64 0, .int .i64 0, .int .i64 0, .int .i64 0]) ?_ 1 _ rfl; (with_reducible repeat first | apply blk_drewN | apply blk_drew | apply blk_alloc); refine blk_put (cs := #[.int .i64 0, .int .i64 0, .int .i64 0, .int .i64 0]) ?_ 0 _ rfl; (with_reducible repeat first | apply blk_drewN | apply blk_drew | apply blk_alloc); refine blk_far ?_ NB220_227.out _; (with_reducible repeat first | apply blk_drewN | apply blk_drew | apply blk_alloc); refine blk_far ?_ NB220_227.out _; (with_reducible repeat first | apply blk_drewN | apply blk_drew | apply blk_alloc); refine blk_far ?_ NB220_227.out _; (with_reducible repeat first | apply blk_drewN | apply blk_drew | apply blk_alloc); refine blk_far ?_ NB220_227.out _; (with_reducible repeat first | apply blk_drewN | apply blk_drew | apply blk_alloc); exact BK220.out) Try.underlying33 rfl (by kernel_rfl)) rfl ?_
   exact ⟨by first | rfl | (simp [errW_none, errW_some] <;> rfl) | (simp [*, errW_none, errW_some] <;> rfl), by repeat (first | (with_reducible first | exact HB.out | apply below_alloc | apply pw_below_drewN | apply below_drew1 | refine below_set ?_ GE219.out | refine below_set ?_ GE220.out | refine below_set ?_ GE227.out) | exact HB.out)⟩
 ·rw [if_neg c4] at H
  have c4b0 : (t221 == 0) = false := beq_eq_false_iff_ne.mpr c4
  have c4b1 : (t221 != 0) = true := bne_iff_ne.mpr c4
  simp only [Option.some.injEq, Prod.mk.injEq] at H
  obtain ⟨rfl, rfl, rfl, rfl, rfl⟩ := H
  go_enter Try.func17, Try.ntmps17
  go_wp2_with (first | ((with_reducible refine gate_dst (N := 3) rfl ?_); refine bx_ 3 #[.int .i64 a1_0, .int .i64 a1_1, .int .i64 a1_2, .int .i64 a1_3] 33 ?_; intro gb219 hg w71 hbox hb; have BK219 := Aside0.mk (hbox); have GW219 := bs_ HB hg; have GE219 := bs_ HB hg; replace HB := bt_ HB hb; clear hb hbox hg) | ((with_reducible refine gate_dst (N := 4) rfl ?_); refine bx_ 4 #[.int .i64 0, .int .i64 0, .int .i64 0, .int .i64 0] 33 ?_; intro gb220 hg w72 hbox hb; have BK220 := Aside0.mk (hbox); have GW220 := bs_ HB hg; have GE220 := bs_ HB hg; have NB219_220 := bm_ BK219 hg; have NB220_219 := bn_ BK219 hg; replace BK219 := bb_ BK219 hb; replace HB := bt_ HB hb; clear hb hbox hg; have hnb73 := NB219_220.out; have hnc73 := NB220_219.out; have hcz74_0 : w72.cell? ⟨gb219, 0, none⟩ = some (.int .i64 a1_0) := (blk_cell BK219.out 0).trans rfl; have hcz74_1 : w72.cell? ⟨gb219, 1, none⟩ = some (.int .i64 a1_1) := (blk_cell BK219.out 1).trans rfl; have hcz74_2 : w72.cell? ⟨gb219, 2, none⟩ = some (.int .i64 a1_2) := (blk_cell BK219.out 2).trans rfl; have hcz74_3 : w72.cell? ⟨gb219, 3, none⟩ = some (.int .i64 a1_3) := (blk_cell BK219.out 3).trans rfl; have hfz74_0 := blk_frozen BK219.out 0; have hfz74_1 := blk_frozen BK219.out 1; have hfz74_2 := blk_frozen BK219.out 2; have hfz74_3 := blk_frozen BK219.out 3) | ((with_reducible refine gate_callee (f := 42) rfl ?_); refine goesL_ (some 13) rfl rfl Try.func42 (by kernel_rfl) rfl #[.int .i64 a0, .agg #[.int .i64 a1_0, .int .i64 a1_1, .int .i64 a1_2, .int .i64 a1_3], .slice none 0 0] rfl (by (try simp only [List.map_toArray, List.map_cons, List.map_nil]); first | done | rfl | (simp only [List.length_drop, List.length_take]; rfl)) ?_; (refine (spec_l04Code.calls k a0 a1_0 a1_1 a1_2 a1_3 _ _ ([] : List (S28)) t221 _ ?side1 ?side2 A3.out).mono ?_); (case side1 => exact Kd.C_nil _ _); (case side2 => exact Nat.le_refl _); rintro e w75 ⟨rfl, hb⟩; refine ⟨_, rfl, ?_⟩; replace BK219 := bb_ BK219 hb; replace BK220 := bb_ BK220 hb; replace HB := bt_ HB hb; (try clear hb); (try clear hb2); (try clear hk); (try clear hi); have hcz76_0 : w75.cell? ⟨gb220, 0, none⟩ = some (.int .i64 0) := (blk_cell BK220.out 0).trans rfl; have hcz76_1 : w75.cell? ⟨gb220, 1, none⟩ = some (.int .i64 0) := (blk_cell BK220.out 1).trans rfl; have hcz76_2 : w75.cell? ⟨gb220, 2, none⟩ = some (.int .i64 0) := (blk_cell BK220.out 2).trans rfl; have hcz76_3 : w75.cell? ⟨gb220, 3, none⟩ = some (.int .i64 0) := (blk_cell BK220.out 3).trans rfl; have hfz76_0 := blk_frozen BK220.out 0; have hfz76_1 := blk_frozen BK220.out 1; have hfz76_2 := blk_frozen BK220.out 2; have hfz76_3 := blk_frozen BK220.out 3))
  refine bodyPost_ret (results_ct rfl _ _ gb220 33 #[.int .i64 0, .int .i64 0, .int .i64 0, .int .i64 0] (0, 0) _ rfl (by (with_reducible repeat first | apply blk_drewN | apply blk_drew | apply blk_alloc); refine blk_put (cs := #[.int .i64 0, .int .i64 0, .int .i64 0, .int .i64 0]) ?_ 3 _ rfl; (with_reducible repeat first | apply blk_drewN | apply blk_drew | apply blk_alloc); refine blk_put (cs := #[.int .i64 0, .int .i64 0, .int .i64 0, .int .i64 0]) ?_ 2 _ rfl; (with_reducible repeat first | apply blk_drewN | apply blk_drew | apply blk_alloc); refine blk_put (cs := #[.int .i64 0, .int .i64 0, .int .i64 0, .int .i64 0]) ?_ 1 _ rfl; (with_reducible repeat first | apply blk_drewN | apply blk_drew | apply blk_alloc); refine blk_put (cs := #[.int .i64 0, .int .i64 0, .int .i64 0, .int .i64 0]) ?_ 0 _ rfl; (with_reducible repeat first | apply blk_drewN | apply blk_drew | apply blk_alloc); exact BK220.out) Try.underlying33 rfl (by kernel_rfl)) rfl ?_
  exact ⟨by first | rfl | (simp [errW_none, errW_some] <;> rfl) | (simp [*, errW_none, errW_some] <;> rfl), by repeat (first | (with_reducible first | exact HB.out | apply below_alloc | apply pw_below_drewN | apply below_drew1 | refine below_set ?_ GE219.out | refine below_set ?_ GE220.out) | exact HB.out)⟩
end Go.Proofs.Ytojpcbbmbnmchaa.QC
