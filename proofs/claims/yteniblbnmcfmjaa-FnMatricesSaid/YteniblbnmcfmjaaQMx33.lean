import Derived.Test.YteniblbnmcfmjaaQMx6
import Derived.Test.YteniblbnmcfmjaaQMx14
import Derived.Test.YteniblbnmcfmjaaQMx26
import Derived.Test.YteniblbnmcfmjaaQMx20
import Derived.Test.YteniblbnmcfmjaaQMx21
import Derived.Test.YteniblbnmcfmjaaQMx7
namespace Go.Proofs.Yteniblbnmcfmjaa.QM
set_option maxHeartbeats 8000000
set_option maxRecDepth 100000
open Go.RowKit Go.Proofs.YteniblbnmcfmjaaW.PrintWords Go.Proofs.YteniblbnmcfmjaaW.PrintLast Go.Proofs.YteniblbnmcfmjaaW.PrintMore
attribute [local go_sem] isSome_setCell max2_int min2_int max_two min_two max_three min_three max_four min_four
set_option linter.unusedVariables false
set_option linter.unusedSimpArgs false

/-! ### impl_ReduceMatrix: function 11 -/
def impl_ReduceMatrix.f (k : Nat) (a0_0 a0_1 a0_2 a0_3 : Int) : Option (Int × Int × Int × Int × Int) := (impl_IsMatrix.f k a0_0 a0_1 a0_2 a0_3).bind fun t298 => (if t298 = true then ((impl_reduce.f k a0_0 a0_1 a0_2 a0_3).bind fun bt299 => (some (bt299.1, bt299.2.1, bt299.2.2.1, bt299.2.2.2, 0))) else (some (0, 0, 0, 0, 1)))
theorem impl_ReduceMatrix.calls (k : Nat) (a0_0 a0_1 a0_2 a0_3 r1 r2 r3 r4 r5 : Int) (w : World) (h : impl_ReduceMatrix.f k a0_0 a0_1 a0_2 a0_3 = some (r1, r2, r3, r4, r5)) :
  Calls Try.prog 11 #[.agg #[.int .i64 a0_0, .int .i64 a0_1, .int .i64 a0_2, .int .i64 a0_3]] w fun e w' => e = .returned (.tuple #[.agg #[.int .i64 r1, .int .i64 r2, .int .i64 r3, .int .i64 r4], .int .i64 r5]) ∧ Below w.heap.size w w' := by
 have hu26 := Try.underlying26
 have HB := Aside0.mk (Below.refl w.heap.size w)
 unfold impl_ReduceMatrix.f at h
 have H := h
 clear h
 replace H := oc_ H
 obtain ⟨t298, A2, H⟩ := H
 replace H := ib_ H
 rcases H with ⟨rfl, H⟩ | ⟨rfl, H⟩
 ·replace H := oc_ H
  obtain ⟨⟨t299, t300, t301, t302⟩, A4, H⟩ := H
  simp only [Option.some.injEq, Prod.mk.injEq] at H
  obtain ⟨rfl, rfl, rfl, rfl, rfl⟩ := H
  go_enter Try.func11, Try.ntmps11
  go_wp2_with (first | ((refine gd_ 1 ?_); refine by_ 1 #[.int .i64 a0_0, .int .i64 a0_1, .int .i64 a0_2, .int .i64 a0_3] 26 HB ?_; intro gb296 hg w5 BK296 hb GW296 HB_; replace HB := HB_; clear hb hg) | ((refine gd_ 2 ?_); refine by_ 2 #[.int .i64 0, .int .i64 0, .int .i64 0, .int .i64 0] 26 HB ?_; intro gb297 hg w6 BK297 hb GW297 HB_; have NB296_297 := bm_ BK296 hg; have NB297_296 := bn_ BK296 hg; replace BK296 := bb_ BK296 hb; replace HB := HB_; clear hb hg; have hnb7 := NB296_297.out; have hnc7 := NB297_296.out; obtain ⟨hcz8_0, hcz8_1, hcz8_2, hcz8_3, hfz8_0, hfz8_1, hfz8_2, hfz8_3⟩ := ch4_ BK296) | ((refine gc_ 8 ?_); refine ge_ 5 Try.func8 #[.agg #[.int .i64 a0_0, .int .i64 a0_1, .int .i64 a0_2, .int .i64 a0_3]] ?_; (with_reducible refine (impl_IsMatrix.calls k a0_0 a0_1 a0_2 a0_3 true _ A2.out).mono ?_); rintro e w9 ⟨rfl, hb⟩; refine ⟨_, rfl, ?_⟩; replace BK296 := bb_ BK296 hb; replace BK297 := bb_ BK297 hb; replace HB := bt_ HB hb; (try clear hb); obtain ⟨hcz10_0, hcz10_1, hcz10_2, hcz10_3, hfz10_0, hfz10_1, hfz10_2, hfz10_3⟩ := ch4_ BK296) | ((refine gc_ 32 ?_); refine ge_ 9 Try.func32 #[.agg #[.int .i64 a0_0, .int .i64 a0_1, .int .i64 a0_2, .int .i64 a0_3]] ?_; (with_reducible refine (impl_reduce.calls k a0_0 a0_1 a0_2 a0_3 t299 t300 t301 t302 _ A4.out).mono ?_); rintro e w11 ⟨rfl, hb⟩; refine ⟨_, rfl, ?_⟩; replace BK296 := bb_ BK296 hb; replace BK297 := bb_ BK297 hb; replace HB := bt_ HB hb; (try clear hb); obtain ⟨hcz12_0, hcz12_1, hcz12_2, hcz12_3, hfz12_0, hfz12_1, hfz12_2, hfz12_3⟩ := ch4_ BK297))
  refine bodyPost_ret (results_ct rfl _ _ gb297 26 #[.int .i64 t299, .int .i64 t300, .int .i64 t301, .int .i64 t302] (0, 0) _ rfl (bp_ BK297).out Try.underlying26 rfl (by kernel_rfl)) rfl ?_
  exact ⟨es_, (bw_ HB).out⟩
 simp only [Option.some.injEq, Prod.mk.injEq] at H
 obtain ⟨rfl, rfl, rfl, rfl, rfl⟩ := H
 go_enter Try.func11, Try.ntmps11
 go_wp2_with (first | ((refine gd_ 1 ?_); refine by_ 1 #[.int .i64 a0_0, .int .i64 a0_1, .int .i64 a0_2, .int .i64 a0_3] 26 HB ?_; intro gb296 hg w13 BK296 hb GW296 HB_; replace HB := HB_; clear hb hg) | ((refine gd_ 2 ?_); refine by_ 2 #[.int .i64 0, .int .i64 0, .int .i64 0, .int .i64 0] 26 HB ?_; intro gb297 hg w14 BK297 hb GW297 HB_; have NB296_297 := bm_ BK296 hg; have NB297_296 := bn_ BK296 hg; replace BK296 := bb_ BK296 hb; replace HB := HB_; clear hb hg; have hnb15 := NB296_297.out; have hnc15 := NB297_296.out; obtain ⟨hcz16_0, hcz16_1, hcz16_2, hcz16_3, hfz16_0, hfz16_1, hfz16_2, hfz16_3⟩ := ch4_ BK296) | ((refine gc_ 8 ?_); refine ge_ 5 Try.func8 #[.agg #[.int .i64 a0_0, .int .i64 a0_1, .int .i64 a0_2, .int .i64 a0_3]] ?_; (with_reducible refine (impl_IsMatrix.calls k a0_0 a0_1 a0_2 a0_3 false _ A2.out).mono ?_); rintro e w17 ⟨rfl, hb⟩; refine ⟨_, rfl, ?_⟩; replace BK296 := bb_ BK296 hb; replace BK297 := bb_ BK297 hb; replace HB := bt_ HB hb; (try clear hb); obtain ⟨hcz18_0, hcz18_1, hcz18_2, hcz18_3, hfz18_0, hfz18_1, hfz18_2, hfz18_3⟩ := ch4_ BK297))
 refine bodyPost_ret (results_ct rfl _ _ gb297 26 #[.int .i64 0, .int .i64 0, .int .i64 0, .int .i64 0] (0, 0) _ rfl (bp_ BK297).out Try.underlying26 rfl (by kernel_rfl)) rfl ?_
 exact ⟨es_, (bw_ HB).out⟩
/-! ### spec_ReduceMatrix: function 12 -/
def spec_ReduceMatrix.f (k : Nat) (a0_0 a0_1 a0_2 a0_3 : Int) : Option (Int × Int × Int × Int × Int) := (spec_l04Is.f k a0_0 a0_1 a0_2 a0_3).bind fun t305 => (if t305 = true then ((spec_l04Reduce.f k a0_0 a0_1 a0_2 a0_3).bind fun bt306 => (some (bt306.1, bt306.2.1, bt306.2.2.1, bt306.2.2.2.1, 0))) else (some (0, 0, 0, 0, 1)))
theorem spec_ReduceMatrix.calls (k : Nat) (a0_0 a0_1 a0_2 a0_3 r1 r2 r3 r4 r5 : Int) (w : World) (h : spec_ReduceMatrix.f k a0_0 a0_1 a0_2 a0_3 = some (r1, r2, r3, r4, r5)) :
  Calls Try.prog 12 #[.agg #[.int .i64 a0_0, .int .i64 a0_1, .int .i64 a0_2, .int .i64 a0_3]] w fun e w' => e = .returned (.tuple #[.agg #[.int .i64 r1, .int .i64 r2, .int .i64 r3, .int .i64 r4], .int .i64 r5]) ∧ Below w.heap.size w w' := by
 have hu26 := Try.underlying26
 have HB := Aside0.mk (Below.refl w.heap.size w)
 unfold spec_ReduceMatrix.f at h
 have H := h
 clear h
 replace H := oc_ H
 obtain ⟨t305, A2, H⟩ := H
 replace H := ib_ H
 rcases H with ⟨rfl, H⟩ | ⟨rfl, H⟩
 ·replace H := oc_ H
  obtain ⟨⟨t306, t307, t308, t309, t310⟩, A4, H⟩ := H
  simp only [Option.some.injEq, Prod.mk.injEq] at H
  obtain ⟨rfl, rfl, rfl, rfl, rfl⟩ := H
  go_enter Try.func12, Try.ntmps12
  go_wp2_with (first | ((refine gd_ 1 ?_); refine by_ 1 #[.int .i64 a0_0, .int .i64 a0_1, .int .i64 a0_2, .int .i64 a0_3] 26 HB ?_; intro gb303 hg w5 BK303 hb GW303 HB_; replace HB := HB_; clear hb hg) | ((refine gd_ 2 ?_); refine by_ 2 #[.int .i64 0, .int .i64 0, .int .i64 0, .int .i64 0] 26 HB ?_; intro gb304 hg w6 BK304 hb GW304 HB_; have NB303_304 := bm_ BK303 hg; have NB304_303 := bn_ BK303 hg; replace BK303 := bb_ BK303 hb; replace HB := HB_; clear hb hg; have hnb7 := NB303_304.out; have hnc7 := NB304_303.out; obtain ⟨hcz8_0, hcz8_1, hcz8_2, hcz8_3, hfz8_0, hfz8_1, hfz8_2, hfz8_3⟩ := ch4_ BK303) | ((refine gc_ 27 ?_); refine ge_ 7 Try.func27 #[.agg #[.int .i64 a0_0, .int .i64 a0_1, .int .i64 a0_2, .int .i64 a0_3]] ?_; (with_reducible refine (spec_l04Is.calls k a0_0 a0_1 a0_2 a0_3 true _ A2.out).mono ?_); rintro e w9 ⟨rfl, hb⟩; refine ⟨_, rfl, ?_⟩; replace BK303 := bb_ BK303 hb; replace BK304 := bb_ BK304 hb; replace HB := bt_ HB hb; (try clear hb); obtain ⟨hcz10_0, hcz10_1, hcz10_2, hcz10_3, hfz10_0, hfz10_1, hfz10_2, hfz10_3⟩ := ch4_ BK303) | ((refine gc_ 33 ?_); refine ge_ 12 Try.func33 #[.agg #[.int .i64 a0_0, .int .i64 a0_1, .int .i64 a0_2, .int .i64 a0_3]] ?_; (with_reducible refine (spec_l04Reduce.calls k a0_0 a0_1 a0_2 a0_3 t306 t307 t308 t309 t310 _ A4.out).mono ?_); rintro e w11 ⟨rfl, hb⟩; refine ⟨_, rfl, ?_⟩; replace BK303 := bb_ BK303 hb; replace BK304 := bb_ BK304 hb; replace HB := bt_ HB hb; (try clear hb)) | ((refine gd_ 4 ?_); refine by_ 4 #[.int .i64 0, .int .i64 0, .int .i64 0, .int .i64 0] 26 HB ?_; intro gb311 hg w12 BK311 hb GW311 HB_; have NB303_311 := bm_ BK303 hg; have NB311_303 := bn_ BK303 hg; have NB304_311 := bm_ BK304 hg; have NB311_304 := bn_ BK304 hg; replace BK303 := bb_ BK303 hb; replace BK304 := bb_ BK304 hb; replace HB := HB_; clear hb hg; have hnb13 := NB311_303.out; have hnc13 := NB303_311.out; have hnb14 := NB311_304.out; have hnc14 := NB304_311.out; obtain ⟨hcz15_0, hcz15_1, hcz15_2, hcz15_3, hfz15_0, hfz15_1, hfz15_2, hfz15_3⟩ := ch4_ BK311; obtain ⟨hcz16_0, hcz16_1, hcz16_2, hcz16_3, hfz16_0, hfz16_1, hfz16_2, hfz16_3⟩ := ch4_ BK304))
  refine bodyPost_ret (results_ct rfl _ _ gb304 26 #[.int .i64 t306, .int .i64 t307, .int .i64 t308, .int .i64 t309] (0, 0) _ rfl (bp_ BK304).out Try.underlying26 rfl (by kernel_rfl)) rfl ?_
  exact ⟨es_, (bw_ HB).out⟩
 simp only [Option.some.injEq, Prod.mk.injEq] at H
 obtain ⟨rfl, rfl, rfl, rfl, rfl⟩ := H
 go_enter Try.func12, Try.ntmps12
 go_wp2_with (first | ((refine gd_ 1 ?_); refine by_ 1 #[.int .i64 a0_0, .int .i64 a0_1, .int .i64 a0_2, .int .i64 a0_3] 26 HB ?_; intro gb303 hg w17 BK303 hb GW303 HB_; replace HB := HB_; clear hb hg) | ((refine gd_ 2 ?_); refine by_ 2 #[.int .i64 0, .int .i64 0, .int .i64 0, .int .i64 0] 26 HB ?_; intro gb304 hg w18 BK304 hb GW304 HB_; have NB303_304 := bm_ BK303 hg; have NB304_303 := bn_ BK303 hg; replace BK303 := bb_ BK303 hb; replace HB := HB_; clear hb hg; have hnb19 := NB303_304.out; have hnc19 := NB304_303.out; obtain ⟨hcz20_0, hcz20_1, hcz20_2, hcz20_3, hfz20_0, hfz20_1, hfz20_2, hfz20_3⟩ := ch4_ BK303) | ((refine gc_ 27 ?_); refine ge_ 7 Try.func27 #[.agg #[.int .i64 a0_0, .int .i64 a0_1, .int .i64 a0_2, .int .i64 a0_3]] ?_; (with_reducible refine (spec_l04Is.calls k a0_0 a0_1 a0_2 a0_3 false _ A2.out).mono ?_); rintro e w21 ⟨rfl, hb⟩; refine ⟨_, rfl, ?_⟩; replace BK303 := bb_ BK303 hb; replace BK304 := bb_ BK304 hb; replace HB := bt_ HB hb; (try clear hb); obtain ⟨hcz22_0, hcz22_1, hcz22_2, hcz22_3, hfz22_0, hfz22_1, hfz22_2, hfz22_3⟩ := ch4_ BK304))
 refine bodyPost_ret (results_ct rfl _ _ gb304 26 #[.int .i64 0, .int .i64 0, .int .i64 0, .int .i64 0] (0, 0) _ rfl (bp_ BK304).out Try.underlying26 rfl (by kernel_rfl)) rfl ?_
 exact ⟨es_, (bw_ HB).out⟩
/-! ### spec_DrawInverseMatrix: function 13 -/
def spec_DrawInverseMatrix.f (k : Nat) (l0 : List Int) : Option (Int × Int × Int × Int) := (spec_l01From.f k l0).bind fun bt313 => ((spec_l04Draw.f k bt313.1 bt313.2.1 bt313.2.2).bind fun bt317 => (some (bt317.1, bt317.2.1, bt317.2.2.1, bt317.2.2.2.1)))
theorem spec_DrawInverseMatrix.calls (k : Nat) (A0 : Option Addr) (c0 : Nat) (l0 : List Int) (r1 r2 r3 r4 : Int) (w : World) (hr0 : Kd.C (Kd.int .u8) w A0 l0.length l0) (hc0 : l0.length ≤ c0) (h : spec_DrawInverseMatrix.f k l0 = some (r1, r2, r3, r4)) :
  Calls Try.prog 13 #[.slice A0 l0.length c0] w fun e w' => e = .returned (.agg #[.int .i64 r1, .int .i64 r2, .int .i64 r3, .int .i64 r4]) ∧ Below w.heap.size w w' := by
 have hu26 := Try.underlying26
 have HR0 := Aside0.mk hr0
 have HC0 := Aside0.mk hc0
 clear hr0 hc0
 have HB := Aside0.mk (Below.refl w.heap.size w)
 unfold spec_DrawInverseMatrix.f at h
 have H := h
 clear h
 replace H := oc_ H
 obtain ⟨⟨t313, t314, t315⟩, A2, H⟩ := H
 replace H := oc_ H
 obtain ⟨⟨t317, t318, t319, t320, t321, t322⟩, A3, H⟩ := H
 simp only [Option.some.injEq, Prod.mk.injEq] at H
 obtain ⟨rfl, rfl, rfl, rfl⟩ := H
 go_enter Try.func13, Try.ntmps13
 go_wp2_with (first | ((refine gd_ 2 ?_); refine by_ 2 #[.int .i64 0, .int .i64 0, .int .i64 0, .int .i64 0] 26 HB ?_; intro gb312 hg w4 BK312 hb GW312 HB_; replace HB := HB_; clear hb hg) | ((refine gc_ 22 ?_); refine ge_ 4 Try.func22 #[.slice A0 l0.length c0] ?_; (with_reducible refine (spec_l01From.calls k _ _ l0 t313 t314 t315 w _ ?side1 ?side2 ?side3 A2.out).mono ?_); (case side1 => repeat (first | (with_reducible first | exact HB.out | apply below_alloc | apply pw_below_drewN | apply below_drew1 | refine below_set ?_ GW312.out) | exact HB.out)); (case side2 => exact HR0.out); (case side3 => exact HC0.out); rintro e w5 ⟨g316, rfl, hi, hb, hb2⟩; refine ⟨_, rfl, ?_⟩; have HI316 := Aside0.mk (hi); have NB316_312 := Aside0.mk (IsS55.ne_blk hi (blk_below (g := gb312) (o := .cells #[.int .i64 0, .int .i64 0, .int .i64 0, .int .i64 0] 26 (0, 0)) (bl_ BK312).out hb2) (by decide)); have NB312_316 := Aside0.mk (Ne.symm (IsS55.ne_blk hi (blk_below (g := gb312) (o := .cells #[.int .i64 0, .int .i64 0, .int .i64 0, .int .i64 0] 26 (0, 0)) (bl_ BK312).out hb2) (by decide))); replace BK312 := Aside0.mk (blk_below (g := gb312) (o := .cells #[.int .i64 0, .int .i64 0, .int .i64 0, .int .i64 0] 26 (0, 0)) (bl_ BK312).out hb2); replace HB := Aside0.mk (hb); (try clear hb); (try clear hb2); (try clear hi)) | ((refine gc_ 23 ?_); refine ge_ 5 Try.func23 #[.pointer (some ⟨g316, 0, none⟩)] ?_; (with_reducible refine (spec_l04Draw.calls k g316 t313 t314 t315 t317 t318 t319 t320 t321 t322 w _ ?side1 ?side2 A3.out).mono ?_); (case side1 => repeat (first | (with_reducible first | exact HI316.out | apply IsS55.alloc | apply IsS55.drewN | apply IsS55.drew | apply IsS55.set_1 | apply IsS55.set_2 | refine IsS55.far ?_ NB316_312.out _) | exact HI316.out)); (case side2 => repeat (first | (with_reducible first | exact HB.out | apply below_alloc | apply pw_below_drewN | apply below_drew1 | refine below_set ?_ (IsS55.ge HI316.out) | refine below_set ?_ GW312.out) | exact HB.out)); rintro e w6 ⟨rfl, hi, hb, hk⟩; refine ⟨_, rfl, ?_⟩; replace BK312 := Aside0.mk (KeepBut.blk hk (g' := gb312) (o := .cells #[.int .i64 0, .int .i64 0, .int .i64 0, .int .i64 0] 26 (0, 0)) (bl_ BK312).out NB312_316.out (by simp)); replace HB := Aside0.mk (hb); replace HI316 := Aside0.mk (hi); (try clear hb); (try clear hk); (try clear hi); have hnb7 := NB312_316.out; have hnc7 := NB316_312.out; obtain ⟨hcz8_0, hcz8_1, hcz8_2, hcz8_3, hfz8_0, hfz8_1, hfz8_2, hfz8_3⟩ := ch4_ BK312))
 refine bodyPost_ret (results_cell_row rfl _ _ gb312 26 #[.int .i64 t317, .int .i64 t318, .int .i64 t319, .int .i64 t320] (0, 0) _ rfl (bp_ BK312).out Try.underlying26 rfl (by kernel_rfl)) rfl ?_
 exact ⟨es_, by repeat (first | (with_reducible first | exact HB.out | apply below_alloc | apply pw_below_drewN | apply below_drew1 | refine below_set ?_ (IsS55.ge HI316.out) | refine below_set ?_ GW312.out) | exact HB.out)⟩
/-! ### impl_inverted: function 34 -/
def impl_inverted.f (k : Nat) (a0_0 a0_1 a0_2 a0_3 : Int) : Option (Int × Int × Int × Int) := (impl_reduce.f k a0_3 (wrap64 (-a0_1)) (wrap64 (-a0_2)) a0_0).bind fun bt325 => (some (bt325.1, bt325.2.1, bt325.2.2.1, bt325.2.2.2))
theorem impl_inverted.calls (k : Nat) (a0_0 a0_1 a0_2 a0_3 r1 r2 r3 r4 : Int) (w : World) (h : impl_inverted.f k a0_0 a0_1 a0_2 a0_3 = some (r1, r2, r3, r4)) :
  Calls Try.prog 34 #[.agg #[.int .i64 a0_0, .int .i64 a0_1, .int .i64 a0_2, .int .i64 a0_3]] w fun e w' => e = .returned (.agg #[.int .i64 r1, .int .i64 r2, .int .i64 r3, .int .i64 r4]) ∧ Below w.heap.size w w' := by
 have hu26 := Try.underlying26
 have hu24 := Try.underlying24
 have HB := Aside0.mk (Below.refl w.heap.size w)
 unfold impl_inverted.f at h
 have H := h
 clear h
 replace H := oc_ H
 obtain ⟨⟨t325, t326, t327, t328⟩, A2, H⟩ := H
 simp only [Option.some.injEq, Prod.mk.injEq] at H
 obtain ⟨rfl, rfl, rfl, rfl⟩ := H
 go_enter Try.func34, Try.ntmps34
 go_wp2_with (first | ((refine gd_ 1 ?_); refine by_ 1 #[.int .i64 a0_0, .int .i64 a0_1, .int .i64 a0_2, .int .i64 a0_3] 26 HB ?_; intro gb323 hg w3 BK323 hb GW323 HB_; replace HB := HB_; clear hb hg) | ((refine gd_ 2 ?_); refine by_ 2 #[.int .i64 0, .int .i64 0, .int .i64 0, .int .i64 0] 26 HB ?_; intro gb324 hg w4 BK324 hb GW324 HB_; have NB323_324 := bm_ BK323 hg; have NB324_323 := bn_ BK323 hg; replace BK323 := bb_ BK323 hb; replace HB := HB_; clear hb hg; have hnb5 := NB323_324.out; have hnc5 := NB324_323.out; obtain ⟨hcz6_0, hcz6_1, hcz6_2, hcz6_3, hfz6_0, hfz6_1, hfz6_2, hfz6_3⟩ := ch4_ BK323) | ((refine gc_ 32 ?_); refine ge_ 20 Try.func32 #[.agg #[.int .i64 a0_3, .int .i64 (wrap64 (-a0_1)), .int .i64 (wrap64 (-a0_2)), .int .i64 a0_0]] ?_; (with_reducible refine (impl_reduce.calls k a0_3 (wrap64 (-a0_1)) (wrap64 (-a0_2)) a0_0 t325 t326 t327 t328 _ A2.out).mono ?_); rintro e w7 ⟨rfl, hb⟩; refine ⟨_, rfl, ?_⟩; replace BK323 := bb_ BK323 hb; replace BK324 := bb_ BK324 hb; replace HB := bt_ HB hb; (try clear hb); obtain ⟨hcz8_0, hcz8_1, hcz8_2, hcz8_3, hfz8_0, hfz8_1, hfz8_2, hfz8_3⟩ := ch4_ BK324))
 refine bodyPost_ret (results_cell_row rfl _ _ gb324 26 #[.int .i64 t325, .int .i64 t326, .int .i64 t327, .int .i64 t328] (0, 0) _ rfl (bp_ BK324).out Try.underlying26 rfl (by kernel_rfl)) rfl ?_
 exact ⟨es_, (bw_ HB).out⟩
/-! ### impl_InverseMatrix: function 14 -/
def impl_InverseMatrix.f (k : Nat) (a0_0 a0_1 a0_2 a0_3 : Int) : Option (Int × Int × Int × Int × Int) := (impl_IsMatrix.f k a0_0 a0_1 a0_2 a0_3).bind fun t331 => (if t331 = true then ((impl_inverted.f k a0_0 a0_1 a0_2 a0_3).bind fun bt332 => (some (bt332.1, bt332.2.1, bt332.2.2.1, bt332.2.2.2, 0))) else (some (0, 0, 0, 0, 1)))
theorem impl_InverseMatrix.calls (k : Nat) (a0_0 a0_1 a0_2 a0_3 r1 r2 r3 r4 r5 : Int) (w : World) (h : impl_InverseMatrix.f k a0_0 a0_1 a0_2 a0_3 = some (r1, r2, r3, r4, r5)) :
  Calls Try.prog 14 #[.agg #[.int .i64 a0_0, .int .i64 a0_1, .int .i64 a0_2, .int .i64 a0_3]] w fun e w' => e = .returned (.tuple #[.agg #[.int .i64 r1, .int .i64 r2, .int .i64 r3, .int .i64 r4], .int .i64 r5]) ∧ Below w.heap.size w w' := by
 have hu26 := Try.underlying26
 have HB := Aside0.mk (Below.refl w.heap.size w)
 unfold impl_InverseMatrix.f at h
 have H := h
 clear h
 replace H := oc_ H
 obtain ⟨t331, A2, H⟩ := H
 replace H := ib_ H
 rcases H with ⟨rfl, H⟩ | ⟨rfl, H⟩
 ·replace H := oc_ H
  obtain ⟨⟨t332, t333, t334, t335⟩, A4, H⟩ := H
  simp only [Option.some.injEq, Prod.mk.injEq] at H
  obtain ⟨rfl, rfl, rfl, rfl, rfl⟩ := H
  go_enter Try.func14, Try.ntmps14
  go_wp2_with (first | ((refine gd_ 1 ?_); refine by_ 1 #[.int .i64 a0_0, .int .i64 a0_1, .int .i64 a0_2, .int .i64 a0_3] 26 HB ?_; intro gb329 hg w5 BK329 hb GW329 HB_; replace HB := HB_; clear hb hg) | ((refine gd_ 2 ?_); refine by_ 2 #[.int .i64 0, .int .i64 0, .int .i64 0, .int .i64 0] 26 HB ?_; intro gb330 hg w6 BK330 hb GW330 HB_; have NB329_330 := bm_ BK329 hg; have NB330_329 := bn_ BK329 hg; replace BK329 := bb_ BK329 hb; replace HB := HB_; clear hb hg; have hnb7 := NB329_330.out; have hnc7 := NB330_329.out; obtain ⟨hcz8_0, hcz8_1, hcz8_2, hcz8_3, hfz8_0, hfz8_1, hfz8_2, hfz8_3⟩ := ch4_ BK329) | ((refine gc_ 8 ?_); refine ge_ 5 Try.func8 #[.agg #[.int .i64 a0_0, .int .i64 a0_1, .int .i64 a0_2, .int .i64 a0_3]] ?_; (with_reducible refine (impl_IsMatrix.calls k a0_0 a0_1 a0_2 a0_3 true _ A2.out).mono ?_); rintro e w9 ⟨rfl, hb⟩; refine ⟨_, rfl, ?_⟩; replace BK329 := bb_ BK329 hb; replace BK330 := bb_ BK330 hb; replace HB := bt_ HB hb; (try clear hb); obtain ⟨hcz10_0, hcz10_1, hcz10_2, hcz10_3, hfz10_0, hfz10_1, hfz10_2, hfz10_3⟩ := ch4_ BK329) | ((refine gc_ 34 ?_); refine ge_ 9 Try.func34 #[.agg #[.int .i64 a0_0, .int .i64 a0_1, .int .i64 a0_2, .int .i64 a0_3]] ?_; (with_reducible refine (impl_inverted.calls k a0_0 a0_1 a0_2 a0_3 t332 t333 t334 t335 _ A4.out).mono ?_); rintro e w11 ⟨rfl, hb⟩; refine ⟨_, rfl, ?_⟩; replace BK329 := bb_ BK329 hb; replace BK330 := bb_ BK330 hb; replace HB := bt_ HB hb; (try clear hb); obtain ⟨hcz12_0, hcz12_1, hcz12_2, hcz12_3, hfz12_0, hfz12_1, hfz12_2, hfz12_3⟩ := ch4_ BK330))
  refine bodyPost_ret (results_ct rfl _ _ gb330 26 #[.int .i64 t332, .int .i64 t333, .int .i64 t334, .int .i64 t335] (0, 0) _ rfl (bp_ BK330).out Try.underlying26 rfl (by kernel_rfl)) rfl ?_
  exact ⟨es_, (bw_ HB).out⟩
 simp only [Option.some.injEq, Prod.mk.injEq] at H
 obtain ⟨rfl, rfl, rfl, rfl, rfl⟩ := H
 go_enter Try.func14, Try.ntmps14
 go_wp2_with (first | ((refine gd_ 1 ?_); refine by_ 1 #[.int .i64 a0_0, .int .i64 a0_1, .int .i64 a0_2, .int .i64 a0_3] 26 HB ?_; intro gb329 hg w13 BK329 hb GW329 HB_; replace HB := HB_; clear hb hg) | ((refine gd_ 2 ?_); refine by_ 2 #[.int .i64 0, .int .i64 0, .int .i64 0, .int .i64 0] 26 HB ?_; intro gb330 hg w14 BK330 hb GW330 HB_; have NB329_330 := bm_ BK329 hg; have NB330_329 := bn_ BK329 hg; replace BK329 := bb_ BK329 hb; replace HB := HB_; clear hb hg; have hnb15 := NB329_330.out; have hnc15 := NB330_329.out; obtain ⟨hcz16_0, hcz16_1, hcz16_2, hcz16_3, hfz16_0, hfz16_1, hfz16_2, hfz16_3⟩ := ch4_ BK329) | ((refine gc_ 8 ?_); refine ge_ 5 Try.func8 #[.agg #[.int .i64 a0_0, .int .i64 a0_1, .int .i64 a0_2, .int .i64 a0_3]] ?_; (with_reducible refine (impl_IsMatrix.calls k a0_0 a0_1 a0_2 a0_3 false _ A2.out).mono ?_); rintro e w17 ⟨rfl, hb⟩; refine ⟨_, rfl, ?_⟩; replace BK329 := bb_ BK329 hb; replace BK330 := bb_ BK330 hb; replace HB := bt_ HB hb; (try clear hb); obtain ⟨hcz18_0, hcz18_1, hcz18_2, hcz18_3, hfz18_0, hfz18_1, hfz18_2, hfz18_3⟩ := ch4_ BK330))
 refine bodyPost_ret (results_ct rfl _ _ gb330 26 #[.int .i64 0, .int .i64 0, .int .i64 0, .int .i64 0] (0, 0) _ rfl (bp_ BK330).out Try.underlying26 rfl (by kernel_rfl)) rfl ?_
 exact ⟨es_, (bw_ HB).out⟩
/-! ### spec_l04Inverse: function 35 -/
def spec_l04Inverse.f (k : Nat) (a0_0 a0_1 a0_2 a0_3 : Int) : Option (Int × Int × Int × Int) := (spec_l04Reduce.f k a0_3 (wrap64 (-a0_1)) (wrap64 (-a0_2)) a0_0).bind fun bt338 => (some (bt338.1, bt338.2.1, bt338.2.2.1, bt338.2.2.2.1))
theorem spec_l04Inverse.calls (k : Nat) (a0_0 a0_1 a0_2 a0_3 r1 r2 r3 r4 : Int) (w : World) (h : spec_l04Inverse.f k a0_0 a0_1 a0_2 a0_3 = some (r1, r2, r3, r4)) :
  Calls Try.prog 35 #[.agg #[.int .i64 a0_0, .int .i64 a0_1, .int .i64 a0_2, .int .i64 a0_3]] w fun e w' => e = .returned (.agg #[.int .i64 r1, .int .i64 r2, .int .i64 r3, .int .i64 r4]) ∧ Below w.heap.size w w' := by
 have hu26 := Try.underlying26
 have hu24 := Try.underlying24
 have HB := Aside0.mk (Below.refl w.heap.size w)
 unfold spec_l04Inverse.f at h
 have H := h
 clear h
 replace H := oc_ H
 obtain ⟨⟨t338, t339, t340, t341, t342⟩, A2, H⟩ := H
 simp only [Option.some.injEq, Prod.mk.injEq] at H
 obtain ⟨rfl, rfl, rfl, rfl⟩ := H
 go_enter Try.func35, Try.ntmps35
 go_wp2_with (first | ((refine gd_ 1 ?_); refine by_ 1 #[.int .i64 a0_0, .int .i64 a0_1, .int .i64 a0_2, .int .i64 a0_3] 26 HB ?_; intro gb336 hg w3 BK336 hb GW336 HB_; replace HB := HB_; clear hb hg) | ((refine gd_ 2 ?_); refine by_ 2 #[.int .i64 0, .int .i64 0, .int .i64 0, .int .i64 0] 26 HB ?_; intro gb337 hg w4 BK337 hb GW337 HB_; have NB336_337 := bm_ BK336 hg; have NB337_336 := bn_ BK336 hg; replace BK336 := bb_ BK336 hb; replace HB := HB_; clear hb hg; have hnb5 := NB336_337.out; have hnc5 := NB337_336.out; obtain ⟨hcz6_0, hcz6_1, hcz6_2, hcz6_3, hfz6_0, hfz6_1, hfz6_2, hfz6_3⟩ := ch4_ BK336) | ((refine gc_ 33 ?_); refine ge_ 23 Try.func33 #[.agg #[.int .i64 a0_3, .int .i64 (wrap64 (-a0_1)), .int .i64 (wrap64 (-a0_2)), .int .i64 a0_0]] ?_; (with_reducible refine (spec_l04Reduce.calls k a0_3 (wrap64 (-a0_1)) (wrap64 (-a0_2)) a0_0 t338 t339 t340 t341 t342 _ A2.out).mono ?_); rintro e w7 ⟨rfl, hb⟩; refine ⟨_, rfl, ?_⟩; replace BK336 := bb_ BK336 hb; replace BK337 := bb_ BK337 hb; replace HB := bt_ HB hb; (try clear hb)) | ((refine gd_ 3 ?_); refine by_ 3 #[.int .i64 0, .int .i64 0, .int .i64 0, .int .i64 0] 26 HB ?_; intro gb343 hg w8 BK343 hb GW343 HB_; have NB336_343 := bm_ BK336 hg; have NB343_336 := bn_ BK336 hg; have NB337_343 := bm_ BK337 hg; have NB343_337 := bn_ BK337 hg; replace BK336 := bb_ BK336 hb; replace BK337 := bb_ BK337 hb; replace HB := HB_; clear hb hg; have hnb9 := NB343_336.out; have hnc9 := NB336_343.out; have hnb10 := NB343_337.out; have hnc10 := NB337_343.out; obtain ⟨hcz11_0, hcz11_1, hcz11_2, hcz11_3, hfz11_0, hfz11_1, hfz11_2, hfz11_3⟩ := ch4_ BK343; obtain ⟨hcz12_0, hcz12_1, hcz12_2, hcz12_3, hfz12_0, hfz12_1, hfz12_2, hfz12_3⟩ := ch4_ BK337))
 refine bodyPost_ret (results_cell_row rfl _ _ gb337 26 #[.int .i64 t338, .int .i64 t339, .int .i64 t340, .int .i64 t341] (0, 0) _ rfl (bp_ BK337).out Try.underlying26 rfl (by kernel_rfl)) rfl ?_
 exact ⟨es_, (bw_ HB).out⟩
/-! ### spec_InverseMatrix: function 15 -/
def spec_InverseMatrix.f (k : Nat) (a0_0 a0_1 a0_2 a0_3 : Int) : Option (Int × Int × Int × Int × Int) := (spec_l04Is.f k a0_0 a0_1 a0_2 a0_3).bind fun t346 => (if t346 = true then ((spec_l04Inverse.f k a0_0 a0_1 a0_2 a0_3).bind fun bt347 => (some (bt347.1, bt347.2.1, bt347.2.2.1, bt347.2.2.2, 0))) else (some (0, 0, 0, 0, 1)))
theorem spec_InverseMatrix.calls (k : Nat) (a0_0 a0_1 a0_2 a0_3 r1 r2 r3 r4 r5 : Int) (w : World) (h : spec_InverseMatrix.f k a0_0 a0_1 a0_2 a0_3 = some (r1, r2, r3, r4, r5)) :
  Calls Try.prog 15 #[.agg #[.int .i64 a0_0, .int .i64 a0_1, .int .i64 a0_2, .int .i64 a0_3]] w fun e w' => e = .returned (.tuple #[.agg #[.int .i64 r1, .int .i64 r2, .int .i64 r3, .int .i64 r4], .int .i64 r5]) ∧ Below w.heap.size w w' := by
 have hu26 := Try.underlying26
 have HB := Aside0.mk (Below.refl w.heap.size w)
 unfold spec_InverseMatrix.f at h
 have H := h
 clear h
 replace H := oc_ H
 obtain ⟨t346, A2, H⟩ := H
 replace H := ib_ H
 rcases H with ⟨rfl, H⟩ | ⟨rfl, H⟩
 ·replace H := oc_ H
  obtain ⟨⟨t347, t348, t349, t350⟩, A4, H⟩ := H
  simp only [Option.some.injEq, Prod.mk.injEq] at H
  obtain ⟨rfl, rfl, rfl, rfl, rfl⟩ := H
  go_enter Try.func15, Try.ntmps15
  go_wp2_with (first | ((refine gd_ 1 ?_); refine by_ 1 #[.int .i64 a0_0, .int .i64 a0_1, .int .i64 a0_2, .int .i64 a0_3] 26 HB ?_; intro gb344 hg w5 BK344 hb GW344 HB_; replace HB := HB_; clear hb hg) | ((refine gd_ 2 ?_); refine by_ 2 #[.int .i64 0, .int .i64 0, .int .i64 0, .int .i64 0] 26 HB ?_; intro gb345 hg w6 BK345 hb GW345 HB_; have NB344_345 := bm_ BK344 hg; have NB345_344 := bn_ BK344 hg; replace BK344 := bb_ BK344 hb; replace HB := HB_; clear hb hg; have hnb7 := NB344_345.out; have hnc7 := NB345_344.out; obtain ⟨hcz8_0, hcz8_1, hcz8_2, hcz8_3, hfz8_0, hfz8_1, hfz8_2, hfz8_3⟩ := ch4_ BK344) | ((refine gc_ 27 ?_); refine ge_ 5 Try.func27 #[.agg #[.int .i64 a0_0, .int .i64 a0_1, .int .i64 a0_2, .int .i64 a0_3]] ?_; (with_reducible refine (spec_l04Is.calls k a0_0 a0_1 a0_2 a0_3 true _ A2.out).mono ?_); rintro e w9 ⟨rfl, hb⟩; refine ⟨_, rfl, ?_⟩; replace BK344 := bb_ BK344 hb; replace BK345 := bb_ BK345 hb; replace HB := bt_ HB hb; (try clear hb); obtain ⟨hcz10_0, hcz10_1, hcz10_2, hcz10_3, hfz10_0, hfz10_1, hfz10_2, hfz10_3⟩ := ch4_ BK344) | ((refine gc_ 35 ?_); refine ge_ 9 Try.func35 #[.agg #[.int .i64 a0_0, .int .i64 a0_1, .int .i64 a0_2, .int .i64 a0_3]] ?_; (with_reducible refine (spec_l04Inverse.calls k a0_0 a0_1 a0_2 a0_3 t347 t348 t349 t350 _ A4.out).mono ?_); rintro e w11 ⟨rfl, hb⟩; refine ⟨_, rfl, ?_⟩; replace BK344 := bb_ BK344 hb; replace BK345 := bb_ BK345 hb; replace HB := bt_ HB hb; (try clear hb); obtain ⟨hcz12_0, hcz12_1, hcz12_2, hcz12_3, hfz12_0, hfz12_1, hfz12_2, hfz12_3⟩ := ch4_ BK345))
  refine bodyPost_ret (results_ct rfl _ _ gb345 26 #[.int .i64 t347, .int .i64 t348, .int .i64 t349, .int .i64 t350] (0, 0) _ rfl (bp_ BK345).out Try.underlying26 rfl (by kernel_rfl)) rfl ?_
  exact ⟨es_, (bw_ HB).out⟩
 simp only [Option.some.injEq, Prod.mk.injEq] at H
 obtain ⟨rfl, rfl, rfl, rfl, rfl⟩ := H
 go_enter Try.func15, Try.ntmps15
 go_wp2_with (first | ((refine gd_ 1 ?_); refine by_ 1 #[.int .i64 a0_0, .int .i64 a0_1, .int .i64 a0_2, .int .i64 a0_3] 26 HB ?_; intro gb344 hg w13 BK344 hb GW344 HB_; replace HB := HB_; clear hb hg) | ((refine gd_ 2 ?_); refine by_ 2 #[.int .i64 0, .int .i64 0, .int .i64 0, .int .i64 0] 26 HB ?_; intro gb345 hg w14 BK345 hb GW345 HB_; have NB344_345 := bm_ BK344 hg; have NB345_344 := bn_ BK344 hg; replace BK344 := bb_ BK344 hb; replace HB := HB_; clear hb hg; have hnb15 := NB344_345.out; have hnc15 := NB345_344.out; obtain ⟨hcz16_0, hcz16_1, hcz16_2, hcz16_3, hfz16_0, hfz16_1, hfz16_2, hfz16_3⟩ := ch4_ BK344) | ((refine gc_ 27 ?_); refine ge_ 5 Try.func27 #[.agg #[.int .i64 a0_0, .int .i64 a0_1, .int .i64 a0_2, .int .i64 a0_3]] ?_; (with_reducible refine (spec_l04Is.calls k a0_0 a0_1 a0_2 a0_3 false _ A2.out).mono ?_); rintro e w17 ⟨rfl, hb⟩; refine ⟨_, rfl, ?_⟩; replace BK344 := bb_ BK344 hb; replace BK345 := bb_ BK345 hb; replace HB := bt_ HB hb; (try clear hb); obtain ⟨hcz18_0, hcz18_1, hcz18_2, hcz18_3, hfz18_0, hfz18_1, hfz18_2, hfz18_3⟩ := ch4_ BK345))
 refine bodyPost_ret (results_ct rfl _ _ gb345 26 #[.int .i64 0, .int .i64 0, .int .i64 0, .int .i64 0] (0, 0) _ rfl (bp_ BK345).out Try.underlying26 rfl (by kernel_rfl)) rfl ?_
 exact ⟨es_, (bw_ HB).out⟩
end Go.Proofs.Yteniblbnmcfmjaa.QM
