import Derived.Test.YteniblbnmcfmjaaQMx6
import Derived.Test.YteniblbnmcfmjaaQMx7
import Derived.Test.YteniblbnmcfmjaaQMx14
import Derived.Test.YteniblbnmcfmjaaQMx16
import Derived.Test.YteniblbnmcfmjaaQMx26
import Derived.Test.YteniblbnmcfmjaaQMx33
namespace Go.Proofs.Yteniblbnmcfmjaa.QM
set_option maxHeartbeats 8000000
set_option maxRecDepth 100000
open Go.RowKit Go.Proofs.YteniblbnmcfmjaaW.PrintWords Go.Proofs.YteniblbnmcfmjaaW.PrintLast Go.Proofs.YteniblbnmcfmjaaW.PrintMore
attribute [local go_sem] isSome_setCell max2_int min2_int max_two min_two max_three min_three max_four min_four
set_option linter.unusedVariables false
set_option linter.unusedSimpArgs false

/-! ### spec_DrawPowerMatrix: function 16 -/
def spec_DrawPowerMatrix.f (k : Nat) (l0 : List Int) : Option (Int × Int × Int × Int × Int) := (spec_l01From.f k l0).bind fun bt352 => ((spec_l04Draw.f k bt352.1 bt352.2.1 bt352.2.2).bind fun bt356 => ((spec_l01Next.f bt352.1 bt356.2.2.2.2.1 bt356.2.2.2.2.2 43).bind fun bt362 => ((spec_l01Pick.f bt352.1 bt362.2.1 bt362.2.2 (([0, 1, 2, 3, (-1), (-2), wrap64 (bt362.1 - 21)] : List Int))).bind fun bt368 => (some (bt356.1, bt356.2.1, bt356.2.2.1, bt356.2.2.2.1, bt368.1)))))
theorem spec_DrawPowerMatrix.calls (k : Nat) (A0 : Option Addr) (c0 : Nat) (l0 : List Int) (r1 r2 r3 r4 r5 : Int) (w : World) (hr0 : Kd.C (Kd.int .u8) w A0 l0.length l0) (hc0 : l0.length ≤ c0) (h : spec_DrawPowerMatrix.f k l0 = some (r1, r2, r3, r4, r5)) :
  Calls Try.prog 16 #[.slice A0 l0.length c0] w fun e w' => e = .returned (.tuple #[.agg #[.int .i64 r1, .int .i64 r2, .int .i64 r3, .int .i64 r4], .int .i64 r5]) ∧ Below w.heap.size w w' := by
 have hu26 := Try.underlying26
 have HR0 := Aside0.mk hr0
 have HC0 := Aside0.mk hc0
 clear hr0 hc0
 have HB := Aside0.mk (Below.refl w.heap.size w)
 unfold spec_DrawPowerMatrix.f at h
 have H := h
 clear h
 replace H := oc_ H
 obtain ⟨⟨t352, t353, t354⟩, A2, H⟩ := H
 replace H := oc_ H
 obtain ⟨⟨t356, t357, t358, t359, t360, t361⟩, A3, H⟩ := H
 replace H := oc_ H
 obtain ⟨⟨t362, t363, t364⟩, A4, H⟩ := H
 obtain ⟨y365, hy365⟩ : ∃ y_ : List Int, y_ = (([0, 1, 2, 3, (-1), (-2), wrap64 (t362 - 21)] : List Int)) := ⟨_, rfl⟩
 replace H : ((spec_l01Pick.f t352 t363 t364 y365).bind fun bt368 => (some (t356, t357, t358, t359, bt368.1))) = some (r1, r2, r3, r4, r5) := by first | (rw [hy365]; with_reducible exact H) | (have H2_ := (Option.bind_some _ _).symm.trans H; rw [hy365]; with_reducible exact H2_) | (have H2_ := (Option.bind_some _ _).symm.trans H; with_reducible exact H2_) | with_reducible exact H | (rw [hy365]; exact H) | exact H
 have Ny365 := Aside0.mk hy365
 clear hy365
 replace H := oc_ H
 obtain ⟨⟨t368, t369, t370⟩, A5, H⟩ := H
 simp only [Option.some.injEq, Prod.mk.injEq] at H
 obtain ⟨rfl, rfl, rfl, rfl, rfl⟩ := H
 go_enter Try.func16, Try.ntmps16
 go_wp2_with (first | ((refine gd_ 2 ?_); refine by_ 2 #[.int .i64 0, .int .i64 0, .int .i64 0, .int .i64 0] 26 HB ?_; intro gb351 hg w6 BK351 hb GW351 HB_; replace HB := HB_; clear hb hg) | ((refine gc_ 22 ?_); refine ge_ 6 Try.func22 #[.slice A0 l0.length c0] ?_; (with_reducible refine (spec_l01From.calls k _ _ l0 t352 t353 t354 w _ ?side1 ?side2 ?side3 A2.out).mono ?_); (case side1 => repeat (first | (with_reducible first | exact HB.out | apply below_alloc | apply pw_below_drewN | apply below_drew1 | refine below_set ?_ GW351.out) | exact HB.out)); (case side2 => exact HR0.out); (case side3 => exact HC0.out); rintro e w7 ⟨g355, rfl, hi, hb, hb2⟩; refine ⟨_, rfl, ?_⟩; have HI355 := Aside0.mk (hi); have NB355_351 := Aside0.mk (IsS55.ne_blk hi (blk_below (g := gb351) (o := .cells #[.int .i64 0, .int .i64 0, .int .i64 0, .int .i64 0] 26 (0, 0)) (bl_ BK351).out hb2) (by decide)); have NB351_355 := Aside0.mk (Ne.symm (IsS55.ne_blk hi (blk_below (g := gb351) (o := .cells #[.int .i64 0, .int .i64 0, .int .i64 0, .int .i64 0] 26 (0, 0)) (bl_ BK351).out hb2) (by decide))); replace BK351 := Aside0.mk (blk_below (g := gb351) (o := .cells #[.int .i64 0, .int .i64 0, .int .i64 0, .int .i64 0] 26 (0, 0)) (bl_ BK351).out hb2); replace HB := Aside0.mk (hb); (try clear hb); (try clear hb2); (try clear hi)) | ((refine gc_ 23 ?_); refine ge_ 8 Try.func23 #[.pointer (some ⟨g355, 0, none⟩)] ?_; (with_reducible refine (spec_l04Draw.calls k g355 t352 t353 t354 t356 t357 t358 t359 t360 t361 w _ ?side1 ?side2 A3.out).mono ?_); (case side1 => repeat (first | (with_reducible first | exact HI355.out | apply IsS55.alloc | apply IsS55.drewN | apply IsS55.drew | apply IsS55.set_1 | apply IsS55.set_2 | refine IsS55.far ?_ NB355_351.out _) | exact HI355.out)); (case side2 => repeat (first | (with_reducible first | exact HB.out | apply below_alloc | apply pw_below_drewN | apply below_drew1 | refine below_set ?_ (IsS55.ge HI355.out) | refine below_set ?_ GW351.out) | exact HB.out)); rintro e w8 ⟨rfl, hi, hb, hk⟩; refine ⟨_, rfl, ?_⟩; replace BK351 := Aside0.mk (KeepBut.blk hk (g' := gb351) (o := .cells #[.int .i64 0, .int .i64 0, .int .i64 0, .int .i64 0] 26 (0, 0)) (bl_ BK351).out NB351_355.out (by simp)); replace HB := Aside0.mk (hb); replace HI355 := Aside0.mk (hi); (try clear hb); (try clear hk); (try clear hi)) | ((refine gc_ 36 ?_); refine ge_ 11 Try.func36 #[.pointer (some ⟨g355, 0, none⟩), .int .i64 43] ?_; (with_reducible refine (spec_l01Next.calls g355 t352 t360 t361 43 t362 t363 t364 w _ ?side1 ?side2 A4.out).mono ?_); (case side1 => repeat (first | (with_reducible first | exact HI355.out | apply IsS55.alloc | apply IsS55.drewN | apply IsS55.drew | apply IsS55.set_1 | apply IsS55.set_2 | refine IsS55.far ?_ NB355_351.out _) | exact HI355.out)); (case side2 => repeat (first | (with_reducible first | exact HB.out | apply below_alloc | apply pw_below_drewN | apply below_drew1 | refine below_set ?_ (IsS55.ge HI355.out) | refine below_set ?_ GW351.out) | exact HB.out)); rintro e w9 ⟨rfl, hi, hb, hk⟩; refine ⟨_, rfl, ?_⟩; replace BK351 := Aside0.mk (KeepBut.blk hk (g' := gb351) (o := .cells #[.int .i64 0, .int .i64 0, .int .i64 0, .int .i64 0] 26 (0, 0)) (bl_ BK351).out NB351_355.out (by simp)); replace HB := Aside0.mk (hb); replace HI355 := Aside0.mk (hi); (try clear hb); (try clear hk); (try clear hi)) | ((refine gd_ 13 ?_); refine Kd.R_lit (Kd.int .i64) _ 2 ?hg (N := 13) ?hd (xs := ([0, 1, 2, 3, (-1), (-2), wrap64 (t362 - 21)] : List Int)) (inner := [.int .i64 0, .int .i64 1, .int .i64 2, .int .i64 3, .int .i64 (-1), .int .i64 (-2), .int .i64 (wrap64 (t362 - 21))]) (ok := fun _ => True) (okp := fun _ => True) ?hr ?hp (fun _ hk => hk) trivial (Below.refl _ _) (Nat.le_refl _) (by simp) ?_; (case hd => rfl); (case hg => rfl); (case hr => first | (go_simp; done) | (go_simp; rfl)); (case hp => exact (Reps.one (show Kd.M (Kd.int .i64) _ _ _ 0 [.int .i64 0] from rfl) (Reps.one (show Kd.M (Kd.int .i64) _ _ _ 1 [.int .i64 1] from rfl) (Reps.one (show Kd.M (Kd.int .i64) _ _ _ 2 [.int .i64 2] from rfl) (Reps.one (show Kd.M (Kd.int .i64) _ _ _ 3 [.int .i64 3] from rfl) (Reps.one (show Kd.M (Kd.int .i64) _ _ _ (-1) [.int .i64 (-1)] from rfl) (Reps.one (show Kd.M (Kd.int .i64) _ _ _ (-2) [.int .i64 (-2)] from rfl) (Reps.one (show Kd.M (Kd.int .i64) _ _ _ (wrap64 (t362 - 21)) [.int .i64 (wrap64 (t362 - 21))] from rfl) (Reps.none _ _))))))))); intro v366 w10 ho11 hb hg_ hnew_; clear hg_ hnew_; (first | rw [← Ny365.out] at ho11 | (simp only [Int.reduceToNat] at ho11; rw [← Ny365.out] at ho11)); have HO367 := Aside0.mk (Kd.R_lower ho11 (below_size (by repeat (first | (with_reducible first | exact HB.out | apply below_alloc | apply pw_below_drewN | apply below_drew1 | refine below_set ?_ (IsS55.ge HI355.out) | refine below_set ?_ GW351.out) | exact HB.out)))); replace BK351 := bb_ BK351 hb; replace HB := Aside0.mk (below_step (by repeat (first | (with_reducible first | exact HB.out | apply below_alloc | apply pw_below_drewN | apply below_drew1 | refine below_set ?_ (IsS55.ge HI355.out) | refine below_set ?_ GW351.out) | exact HB.out)) hb); replace HI355 := Aside0.mk (IsS55.below (by repeat (first | (with_reducible first | exact HI355.out | apply IsS55.alloc | apply IsS55.drewN | apply IsS55.drew | apply IsS55.set_1 | apply IsS55.set_2 | refine IsS55.far ?_ NB355_351.out _) | exact HI355.out)) hb); clear hb ho11; obtain ⟨Ao12, co12, eo12⟩ := Kd.R_slice HO367.out; subst eo12) | ((refine gc_ 31 ?_); refine ge_ 14 Try.func31 #[.pointer (some ⟨g355, 0, none⟩), .slice Ao12 y365.length co12] ?_; (with_reducible refine (spec_l01Pick.calls g355 t352 t363 t364 _ _ y365 t368 t369 t370 w _ ?side1 ?side2 ?side3 ?side4 ?side5 A5.out).mono ?_); (case side1 => repeat (first | (with_reducible first | exact HI355.out | apply IsS55.alloc | apply IsS55.drewN | apply IsS55.drew | apply IsS55.set_1 | apply IsS55.set_2 | refine IsS55.far ?_ NB355_351.out _) | exact HI355.out)); (case side2 => repeat (first | (with_reducible first | exact HB.out | apply below_alloc | apply pw_below_drewN | apply below_drew1 | refine below_set ?_ (IsS55.ge HI355.out) | refine below_set ?_ GW351.out) | exact HB.out)); (case side3 => exact ca_ (Kd.R_reads' HO367.out).2.2); (case side4 => exact (Kd.R_reads' HO367.out).2.1); (case side5 => exact far_slice (IsS55.own_ne HI355.out HO367.out (by decide))); rintro e w13 ⟨rfl, hi, hb, hk⟩; refine ⟨_, rfl, ?_⟩; replace BK351 := Aside0.mk (KeepBut.blk hk (g' := gb351) (o := .cells #[.int .i64 0, .int .i64 0, .int .i64 0, .int .i64 0] 26 (0, 0)) (bl_ BK351).out NB351_355.out (by simp)); replace HO367 := Aside0.mk (Kd.R_mono (Kd.R_keep (IsS55.apart (show IsS55 w _ g355 t352 t363 t364 from by repeat (first | (with_reducible first | exact HI355.out | apply IsS55.alloc | apply IsS55.drewN | apply IsS55.drew | apply IsS55.set_1 | apply IsS55.set_2 | refine IsS55.far ?_ NB355_351.out _) | exact HI355.out)) (ra_ HO367.out) (by decide)) hk (fun _ h => h.2)) (fun _ h => h.1)); replace HB := Aside0.mk (hb); replace HI355 := Aside0.mk (hi); (try clear hb); (try clear hk); (try clear hi); have hnb14 := NB351_355.out; have hnc14 := NB355_351.out; obtain ⟨hcz15_0, hcz15_1, hcz15_2, hcz15_3, hfz15_0, hfz15_1, hfz15_2, hfz15_3⟩ := ch4_ BK351))
 refine bodyPost_ret (results_ct rfl _ _ gb351 26 #[.int .i64 t356, .int .i64 t357, .int .i64 t358, .int .i64 t359] (0, 0) _ rfl (bp_ BK351).out Try.underlying26 rfl (by kernel_rfl)) rfl ?_
 exact ⟨es_, by repeat (first | (with_reducible first | exact HB.out | apply below_alloc | apply pw_below_drewN | apply below_drew1 | refine below_set ?_ (IsS55.ge HI355.out) | refine below_set ?_ GW351.out) | exact HB.out)⟩
/-! ### impl_one: function 37 -/
def impl_one.f  : Option (Int × Int × Int × Int) := some (1, 0, 0, 1)
theorem impl_one.calls  (r1 r2 r3 r4 : Int) (w : World) (h : impl_one.f  = some (r1, r2, r3, r4)) :
  Calls Try.prog 37 #[] w fun e w' => e = .returned (.agg #[.int .i64 r1, .int .i64 r2, .int .i64 r3, .int .i64 r4]) ∧ Below w.heap.size w w' := by
 have hu26 := Try.underlying26
 have hu24 := Try.underlying24
 have HB := Aside0.mk (Below.refl w.heap.size w)
 unfold impl_one.f at h
 have H := h
 clear h
 simp only [Option.some.injEq, Prod.mk.injEq] at H
 obtain ⟨rfl, rfl, rfl, rfl⟩ := H
 go_enter Try.func37, Try.ntmps37
 go_wp2_with (first | ((refine gd_ 0 ?_); refine by_ 0 #[.int .i64 0, .int .i64 0, .int .i64 0, .int .i64 0] 26 HB ?_; intro gb371 hg w1 BK371 hb GW371 HB_; replace HB := HB_; clear hb hg; obtain ⟨hcz2_0, hcz2_1, hcz2_2, hcz2_3, hfz2_0, hfz2_1, hfz2_2, hfz2_3⟩ := ch4_ BK371))
 refine bodyPost_ret (results_cell_row rfl _ _ gb371 26 #[.int .i64 1, .int .i64 0, .int .i64 0, .int .i64 1] (0, 0) _ rfl (bp_ BK371).out Try.underlying26 rfl (by kernel_rfl)) rfl ?_
 exact ⟨es_, (bw_ HB).out⟩
/-! ### impl_PowerMatrix: function 17 -/
mutual
def impl_PowerMatrix.j0 : Nat → Int → Int → Int → Int → Int → Option (Int × Int × Int × Int × Int)
 | 0, _, _, _, _, _ => none
 | k + 1, x1, x373000, x373001, x373002, x373003 => (impl_one.f).bind fun bt383 => (impl_PowerMatrix.l0 k x1 0 x373000 x373001 x373002 x373003 bt383.1 bt383.2.1 bt383.2.2.1 bt383.2.2.2)
def impl_PowerMatrix.l0 : Nat → Int → Int → Int → Int → Int → Int → Int → Int → Int → Int → Option (Int × Int × Int × Int × Int)
 | 0, _, _, _, _, _, _, _, _, _, _ => none
 | k + 1, x31, x32, x373000, x373001, x373002, x373003, x388000, x388001, x388002, x388003 => if x32 < x31 then ((impl_product.f k x388000 x388001 x388002 x388003 x373000 x373001 x373002 x373003).bind fun bt388 => (if bt388.2.2.2.2 = true then (impl_PowerMatrix.l0 k x31 (wrap64 (x32 + 1)) x373000 x373001 x373002 x373003 bt388.1 bt388.2.1 bt388.2.2.1 bt388.2.2.2.1) else (some (0, 0, 0, 0, 3)))) else (some (x388000, x388001, x388002, x388003, 0))
end
def impl_PowerMatrix.f (k : Nat) (a0_0 a0_1 a0_2 a0_3 a1 : Int) : Option (Int × Int × Int × Int × Int) := (impl_IsMatrix.f k a0_0 a0_1 a0_2 a0_3).bind fun t374 => (if t374 = true then (if a1 < (-20) then (some (0, 0, 0, 0, 2)) else (if a1 > 20 then (some (0, 0, 0, 0, 2)) else ((impl_reduce.f k a0_0 a0_1 a0_2 a0_3).bind fun bt375 => (if a1 < 0 then ((impl_inverted.f k bt375.1 bt375.2.1 bt375.2.2.1 bt375.2.2.2).bind fun bt379 => (impl_PowerMatrix.j0 k (wrap64 (-a1)) bt379.1 bt379.2.1 bt379.2.2.1 bt379.2.2.2)) else (impl_PowerMatrix.j0 k a1 bt375.1 bt375.2.1 bt375.2.2.1 bt375.2.2.2))))) else (some (0, 0, 0, 0, 1)))
theorem impl_PowerMatrix.calls (k : Nat) (a0_0 a0_1 a0_2 a0_3 a1 r1 r2 r3 r4 r5 : Int) (w : World) (h : impl_PowerMatrix.f k a0_0 a0_1 a0_2 a0_3 a1 = some (r1, r2, r3, r4, r5)) :
  Calls Try.prog 17 #[.agg #[.int .i64 a0_0, .int .i64 a0_1, .int .i64 a0_2, .int .i64 a0_3], .int .i64 a1] w fun e w' => e = .returned (.tuple #[.agg #[.int .i64 r1, .int .i64 r2, .int .i64 r3, .int .i64 r4], .int .i64 r5]) ∧ Below w.heap.size w w' := by
 have hu26 := Try.underlying26
 have HB := Aside0.mk (Below.refl w.heap.size w)
 unfold impl_PowerMatrix.f at h
 have H := h
 clear h
 replace H := oc_ H
 obtain ⟨t374, A3, H⟩ := H
 replace H := ib_ H
 rcases H with ⟨rfl, H⟩ | ⟨rfl, H⟩
 ·replace H := il_ H
  rcases H with ⟨c5b0, H⟩ | ⟨c5b0, H⟩
  ·simp only [Option.some.injEq, Prod.mk.injEq] at H
   obtain ⟨rfl, rfl, rfl, rfl, rfl⟩ := H
   go_enter Try.func17, Try.ntmps17
   go_wp2_with (first | ((refine gd_ 2 ?_); refine by_ 2 #[.int .i64 a0_0, .int .i64 a0_1, .int .i64 a0_2, .int .i64 a0_3] 26 HB ?_; intro gb372 hg w6 BK372 hb GW372 HB_; replace HB := HB_; clear hb hg) | ((refine gd_ 4 ?_); refine by_ 4 #[.int .i64 0, .int .i64 0, .int .i64 0, .int .i64 0] 26 HB ?_; intro gb373 hg w7 BK373 hb GW373 HB_; have NB372_373 := bm_ BK372 hg; have NB373_372 := bn_ BK372 hg; replace BK372 := bb_ BK372 hb; replace HB := HB_; clear hb hg; have hnb8 := NB372_373.out; have hnc8 := NB373_372.out; obtain ⟨hcz9_0, hcz9_1, hcz9_2, hcz9_3, hfz9_0, hfz9_1, hfz9_2, hfz9_3⟩ := ch4_ BK372) | ((refine gc_ 8 ?_); refine ge_ 11 Try.func8 #[.agg #[.int .i64 a0_0, .int .i64 a0_1, .int .i64 a0_2, .int .i64 a0_3]] ?_; (with_reducible refine (impl_IsMatrix.calls k a0_0 a0_1 a0_2 a0_3 true _ A3.out).mono ?_); rintro e w10 ⟨rfl, hb⟩; refine ⟨_, rfl, ?_⟩; replace BK372 := bb_ BK372 hb; replace BK373 := bb_ BK373 hb; replace HB := bt_ HB hb; (try clear hb); obtain ⟨hcz11_0, hcz11_1, hcz11_2, hcz11_3, hfz11_0, hfz11_1, hfz11_2, hfz11_3⟩ := ch4_ BK373))
   refine bodyPost_ret (results_ct rfl _ _ gb373 26 #[.int .i64 0, .int .i64 0, .int .i64 0, .int .i64 0] (0, 0) _ rfl (bp_ BK373).out Try.underlying26 rfl (by kernel_rfl)) rfl ?_
   exact ⟨es_, (bw_ HB).out⟩
  replace H := ig_ H
  rcases H with ⟨c12b0, H⟩ | ⟨c12b0, H⟩
  ·simp only [Option.some.injEq, Prod.mk.injEq] at H
   obtain ⟨rfl, rfl, rfl, rfl, rfl⟩ := H
   go_enter Try.func17, Try.ntmps17
   go_wp2_with (first | ((refine gd_ 2 ?_); refine by_ 2 #[.int .i64 a0_0, .int .i64 a0_1, .int .i64 a0_2, .int .i64 a0_3] 26 HB ?_; intro gb372 hg w13 BK372 hb GW372 HB_; replace HB := HB_; clear hb hg) | ((refine gd_ 4 ?_); refine by_ 4 #[.int .i64 0, .int .i64 0, .int .i64 0, .int .i64 0] 26 HB ?_; intro gb373 hg w14 BK373 hb GW373 HB_; have NB372_373 := bm_ BK372 hg; have NB373_372 := bn_ BK372 hg; replace BK372 := bb_ BK372 hb; replace HB := HB_; clear hb hg; have hnb15 := NB372_373.out; have hnc15 := NB373_372.out; obtain ⟨hcz16_0, hcz16_1, hcz16_2, hcz16_3, hfz16_0, hfz16_1, hfz16_2, hfz16_3⟩ := ch4_ BK372) | ((refine gc_ 8 ?_); refine ge_ 11 Try.func8 #[.agg #[.int .i64 a0_0, .int .i64 a0_1, .int .i64 a0_2, .int .i64 a0_3]] ?_; (with_reducible refine (impl_IsMatrix.calls k a0_0 a0_1 a0_2 a0_3 true _ A3.out).mono ?_); rintro e w17 ⟨rfl, hb⟩; refine ⟨_, rfl, ?_⟩; replace BK372 := bb_ BK372 hb; replace BK373 := bb_ BK373 hb; replace HB := bt_ HB hb; (try clear hb); obtain ⟨hcz18_0, hcz18_1, hcz18_2, hcz18_3, hfz18_0, hfz18_1, hfz18_2, hfz18_3⟩ := ch4_ BK373))
   refine bodyPost_ret (results_ct rfl _ _ gb373 26 #[.int .i64 0, .int .i64 0, .int .i64 0, .int .i64 0] (0, 0) _ rfl (bp_ BK373).out Try.underlying26 rfl (by kernel_rfl)) rfl ?_
   exact ⟨es_, (bw_ HB).out⟩
  replace H := oc_ H
  obtain ⟨⟨t375, t376, t377, t378⟩, A19, H⟩ := H
  have HC20 := Aside0.mk H
  clear H
  go_enter Try.func17, Try.ntmps17
  go_upto_if 25 with (first | ((refine gd_ 2 ?_); refine by_ 2 #[.int .i64 a0_0, .int .i64 a0_1, .int .i64 a0_2, .int .i64 a0_3] 26 HB ?_; intro gb372 hg w21 BK372 hb GW372 HB_; replace HB := HB_; clear hb hg) | ((refine gd_ 4 ?_); refine by_ 4 #[.int .i64 0, .int .i64 0, .int .i64 0, .int .i64 0] 26 HB ?_; intro gb373 hg w22 BK373 hb GW373 HB_; have NB372_373 := bm_ BK372 hg; have NB373_372 := bn_ BK372 hg; replace BK372 := bb_ BK372 hb; replace HB := HB_; clear hb hg; have hnb23 := NB372_373.out; have hnc23 := NB373_372.out; obtain ⟨hcz24_0, hcz24_1, hcz24_2, hcz24_3, hfz24_0, hfz24_1, hfz24_2, hfz24_3⟩ := ch4_ BK372) | ((refine gc_ 8 ?_); refine ge_ 11 Try.func8 #[.agg #[.int .i64 a0_0, .int .i64 a0_1, .int .i64 a0_2, .int .i64 a0_3]] ?_; (with_reducible refine (impl_IsMatrix.calls k a0_0 a0_1 a0_2 a0_3 true _ A3.out).mono ?_); rintro e w25 ⟨rfl, hb⟩; refine ⟨_, rfl, ?_⟩; replace BK372 := bb_ BK372 hb; replace BK373 := bb_ BK373 hb; replace HB := bt_ HB hb; (try clear hb); obtain ⟨hcz26_0, hcz26_1, hcz26_2, hcz26_3, hfz26_0, hfz26_1, hfz26_2, hfz26_3⟩ := ch4_ BK372) | ((refine gc_ 32 ?_); refine ge_ 23 Try.func32 #[.agg #[.int .i64 a0_0, .int .i64 a0_1, .int .i64 a0_2, .int .i64 a0_3]] ?_; (with_reducible refine (impl_reduce.calls k a0_0 a0_1 a0_2 a0_3 t375 t376 t377 t378 _ A19.out).mono ?_); rintro e w27 ⟨rfl, hb⟩; refine ⟨_, rfl, ?_⟩; replace BK372 := bb_ BK372 hb; replace BK373 := bb_ BK373 hb; replace HB := bt_ HB hb; (try clear hb); obtain ⟨hcz28_0, hcz28_1, hcz28_2, hcz28_3, hfz28_0, hfz28_1, hfz28_2, hfz28_3⟩ := ch4_ BK372))
  (try simp only [Act.put, lstS, lstZ, lstC])
  go_cut [1] (fun v1 wc => ∃ (kq : Nat) (x1_19 : Int) (x373000_19 : Int) (x373001_19 : Int) (x373002_19 : Int) (x373003_19 : Int), v1 = .int .i64 x1_19 ∧ Aside0 (impl_PowerMatrix.j0 kq x1_19 x373000_19 x373001_19 x373002_19 x373003_19 = some (r1, r2, r3, r4, r5)) ∧ Aside0 (kq ≤ k) ∧ Aside0 (wc.heap[gb372]? = some (.cells #[.int .i64 x373000_19, .int .i64 x373001_19, .int .i64 x373002_19, .int .i64 x373003_19] 26 (0, 0))) ∧ Aside0 (wc.heap[gb373]? = some (.cells #[.int .i64 0, .int .i64 0, .int .i64 0, .int .i64 0] 26 (0, 0))) ∧ Aside0 (Below w.heap.size w wc))
  case first =>
   have H := HC20.out
   clear HC20
   replace H := il_ H
   rcases H with ⟨c29b0, H⟩ | ⟨c29b0, H⟩
   ·(first | rw [c29b0] | (simp only [i64_w, i32_w]; rw [c29b0]) | skip)
    replace H := oc_ H
    obtain ⟨⟨t379, t380, t381, t382⟩, A30, H⟩ := H
    have H' := Aside0.mk H
    clear H
    have hnb31 := NB372_373.out
    have hnc31 := NB373_372.out
    obtain ⟨hcz32_0, hcz32_1, hcz32_2, hcz32_3, hfz32_0, hfz32_1, hfz32_2, hfz32_3⟩ := ch4_ BK372
    go_wp2_with (first | ((refine gc_ 34 ?_); refine ge_ 27 Try.func34 #[.agg #[.int .i64 t375, .int .i64 t376, .int .i64 t377, .int .i64 t378]] ?_; (with_reducible refine (impl_inverted.calls k t375 t376 t377 t378 t379 t380 t381 t382 _ A30.out).mono ?_); rintro e w33 ⟨rfl, hb⟩; refine ⟨_, rfl, ?_⟩; replace BK372 := Aside0.mk (blk_below (g := gb372) (o := .cells #[.int .i64 t375, .int .i64 t376, .int .i64 t377, .int .i64 t378] 26 (0, 0)) (bp_ BK372).out hb); replace BK373 := fb_ BK373 NB373_372 hb; replace HB := bt_ HB hb; (try clear hb); obtain ⟨hcz34_0, hcz34_1, hcz34_2, hcz34_3, hfz34_0, hfz34_1, hfz34_2, hfz34_3⟩ := ch4_ BK372))
    go_meet
    case rel => exact ⟨_, (wrap64 (-a1)), (t379), (t380), (t381), (t382), en_, H', ⟨by first | omega | exact Nat.le_refl _⟩, bp_ BK372, fl_ BK373 NB373_372, bw_ HB⟩
   (first | rw [c29b0] | (simp only [i64_w, i32_w]; rw [c29b0]) | skip)
   have H' := Aside0.mk H
   clear H
   go_wp2
   go_meet
   case rel => exact ⟨_, (a1), (t375), (t376), (t377), (t378), en_, H', ⟨by first | omega | exact Nat.le_refl _⟩, bp_ BK372, fl_ BK373 NB373_372, bw_ HB⟩
  clear HC20
  try clear c5b0
  try clear c12b0
  try clear c29b0
  try clear hcz11_0 hcz11_1 hcz11_2 hcz11_3
  try clear hcz16_0 hcz16_1 hcz16_2 hcz16_3
  try clear hcz18_0 hcz18_1 hcz18_2 hcz18_3
  try clear hcz24_0 hcz24_1 hcz24_2 hcz24_3
  try clear hcz26_0 hcz26_1 hcz26_2 hcz26_3
  try clear hcz28_0 hcz28_1 hcz28_2 hcz28_3
  try clear hcz32_0 hcz32_1 hcz32_2 hcz32_3
  try clear hcz34_0 hcz34_1 hcz34_2 hcz34_3
  try clear hcz9_0 hcz9_1 hcz9_2 hcz9_3
  try clear hfz11_0 hfz11_1 hfz11_2 hfz11_3
  try clear hfz16_0 hfz16_1 hfz16_2 hfz16_3
  try clear hfz18_0 hfz18_1 hfz18_2 hfz18_3
  try clear hfz24_0 hfz24_1 hfz24_2 hfz24_3
  try clear hfz26_0 hfz26_1 hfz26_2 hfz26_3
  try clear hfz28_0 hfz28_1 hfz28_2 hfz28_3
  try clear hfz32_0 hfz32_1 hfz32_2 hfz32_3
  try clear hfz34_0 hfz34_1 hfz34_2 hfz34_3
  try clear hfz9_0 hfz9_1 hfz9_2 hfz9_3
  obtain ⟨kq, x1_19, x373000_19, x373001_19, x373002_19, x373003_19, rfl, HA, HJ19, BK372, BK373, HB⟩ := hcut
  cases kq with
  | zero => exact absurd HA.out (by simp [impl_PowerMatrix.j0])
  | succ kj19 =>
   have H := HA.out
   clear HA
   simp only [impl_PowerMatrix.j0] at H
   replace H := oc_ H
   obtain ⟨⟨t383, t384, t385, t386⟩, A35, H⟩ := H
   have H' := Aside0.mk H
   clear H
   go_wp2_with (first | ((refine gc_ 37 ?_); refine ge_ 30 Try.func37 #[] ?_; (with_reducible refine (impl_one.calls  t383 t384 t385 t386 _ A35.out).mono ?_); rintro e w36 ⟨rfl, hb⟩; refine ⟨_, rfl, ?_⟩; replace BK372 := bb_ BK372 hb; replace BK373 := bb_ BK373 hb; replace HB := bt_ HB hb; (try clear hb)) | ((refine gd_ 6 ?_); refine by_ 6 #[.int .i64 0, .int .i64 0, .int .i64 0, .int .i64 0] 26 HB ?_; intro gb387 hg w37 BK387 hb GW387 HB_; have NB372_387 := bm_ BK372 hg; have NB387_372 := bn_ BK372 hg; have NB373_387 := bm_ BK373 hg; have NB387_373 := bn_ BK373 hg; replace BK372 := bb_ BK372 hb; replace BK373 := bb_ BK373 hb; replace HB := HB_; clear hb hg; have hnb38 := NB387_372.out; have hnc38 := NB372_387.out; have hnb39 := NB387_373.out; have hnc39 := NB373_387.out; obtain ⟨hcz40_0, hcz40_1, hcz40_2, hcz40_3, hfz40_0, hfz40_1, hfz40_2, hfz40_3⟩ := ch4_ BK387))
   go_loopg [32] kj19 (fun kq v32 w' => ∃ (x32_2 : Int) (x374000_2 : Int) (x374001_2 : Int) (x374002_2 : Int) (x374003_2 : Int) (x388000_2 : Int) (x388001_2 : Int) (x388002_2 : Int) (x388003_2 : Int), v32 = .int .i64 x32_2 ∧ Aside0 (impl_PowerMatrix.l0 kq x1_19 x32_2 x373000_19 x373001_19 x373002_19 x373003_19 x388000_2 x388001_2 x388002_2 x388003_2 = some (r1, r2, r3, r4, r5)) ∧ Aside0 (kq ≤ kj19) ∧ Aside0 (w'.heap[gb372]? = some (.cells #[.int .i64 x373000_19, .int .i64 x373001_19, .int .i64 x373002_19, .int .i64 x373003_19] 26 (0, 0))) ∧ Aside0 (w'.heap[gb373]? = some (.cells #[.int .i64 x374000_2, .int .i64 x374001_2, .int .i64 x374002_2, .int .i64 x374003_2] 26 (0, 0))) ∧ Aside0 (w'.heap[gb387]? = some (.cells #[.int .i64 x388000_2, .int .i64 x388001_2, .int .i64 x388002_2, .int .i64 x388003_2] 26 (0, 0))) ∧ Aside0 (Below w.heap.size w w'))
   case atStart => exact ⟨(0), (0), (0), (0), (0), (t383), (t384), (t385), (t386), en_, H', ⟨Nat.le_refl _⟩, fl_ BK372 NB372_387, fl_ BK373 NB373_387, bp_ BK387, bw_ HB⟩
   clear H'
   try clear c5b0
   try clear c12b0
   try clear c29b0
   try clear hcz11_0 hcz11_1 hcz11_2 hcz11_3
   try clear hcz16_0 hcz16_1 hcz16_2 hcz16_3
   try clear hcz18_0 hcz18_1 hcz18_2 hcz18_3
   try clear hcz24_0 hcz24_1 hcz24_2 hcz24_3
   try clear hcz26_0 hcz26_1 hcz26_2 hcz26_3
   try clear hcz28_0 hcz28_1 hcz28_2 hcz28_3
   try clear hcz32_0 hcz32_1 hcz32_2 hcz32_3
   try clear hcz34_0 hcz34_1 hcz34_2 hcz34_3
   try clear hcz40_0 hcz40_1 hcz40_2 hcz40_3
   try clear hcz9_0 hcz9_1 hcz9_2 hcz9_3
   try clear hfz11_0 hfz11_1 hfz11_2 hfz11_3
   try clear hfz16_0 hfz16_1 hfz16_2 hfz16_3
   try clear hfz18_0 hfz18_1 hfz18_2 hfz18_3
   try clear hfz24_0 hfz24_1 hfz24_2 hfz24_3
   try clear hfz26_0 hfz26_1 hfz26_2 hfz26_3
   try clear hfz28_0 hfz28_1 hfz28_2 hfz28_3
   try clear hfz32_0 hfz32_1 hfz32_2 hfz32_3
   try clear hfz34_0 hfz34_1 hfz34_2 hfz34_3
   try clear hfz40_0 hfz40_1 hfz40_2 hfz40_3
   try clear hfz9_0 hfz9_1 hfz9_2 hfz9_3
   obtain ⟨x32_2, x374000_2, x374001_2, x374002_2, x374003_2, x388000_2, x388001_2, x388002_2, x388003_2, rfl, HA, HK2, BK372, BK373, BK387, HB⟩ := hrel
   cases gk with
   | zero => exact absurd HA.out (by simp [impl_PowerMatrix.l0])
   | succ k2 =>
    have H := HA.out
    clear HA
    simp only [impl_PowerMatrix.l0] at H
    replace H := il_ H
    rcases H with ⟨c41b0, H⟩ | ⟨c41b0, H⟩
    ·replace H := oc_ H
     obtain ⟨⟨t388, t389, t390, t391, t392⟩, A42, H⟩ := H
     replace H := ib_ H
     rcases H with ⟨rfl, H⟩ | ⟨rfl, H⟩
     ·have H' := Aside0.mk H
      clear H
      have hnb44 := NB387_372.out
      have hnc44 := NB372_387.out
      have hnb45 := NB387_373.out
      have hnc45 := NB373_387.out
      obtain ⟨hcz46_0, hcz46_1, hcz46_2, hcz46_3, hfz46_0, hfz46_1, hfz46_2, hfz46_3⟩ := ch4_ BK387
      have hnb47 := NB372_373.out
      have hnc47 := NB373_372.out
      obtain ⟨hcz48_0, hcz48_1, hcz48_2, hcz48_3, hfz48_0, hfz48_1, hfz48_2, hfz48_3⟩ := ch4_ BK372
      go_wp2_with (first | ((refine gc_ 26 ?_); refine ge_ 37 Try.func26 #[.agg #[.int .i64 x388000_2, .int .i64 x388001_2, .int .i64 x388002_2, .int .i64 x388003_2], .agg #[.int .i64 x373000_19, .int .i64 x373001_19, .int .i64 x373002_19, .int .i64 x373003_19]] ?_; (with_reducible refine (impl_product.calls k2 x388000_2 x388001_2 x388002_2 x388003_2 x373000_19 x373001_19 x373002_19 x373003_19 t388 t389 t390 t391 true _ A42.out).mono ?_); rintro e w49 ⟨rfl, hb⟩; refine ⟨_, rfl, ?_⟩; replace BK372 := bb_ BK372 hb; replace BK373 := bb_ BK373 hb; replace BK387 := bb_ BK387 hb; replace HB := bt_ HB hb; (try clear hb)) | ((refine gd_ 7 ?_); refine by_ 7 #[.int .i64 0, .int .i64 0, .int .i64 0, .int .i64 0] 26 HB ?_; intro gb393 hg w50 BK393 hb GW393 HB_; have NB372_393 := bm_ BK372 hg; have NB393_372 := bn_ BK372 hg; have NB373_393 := bm_ BK373 hg; have NB393_373 := bn_ BK373 hg; have NB387_393 := bm_ BK387 hg; have NB393_387 := bn_ BK387 hg; replace BK372 := bb_ BK372 hb; replace BK373 := bb_ BK373 hb; replace BK387 := bb_ BK387 hb; replace HB := HB_; clear hb hg; have hnb51 := NB393_372.out; have hnc51 := NB372_393.out; have hnb52 := NB393_373.out; have hnc52 := NB373_393.out; have hnb53 := NB393_387.out; have hnc53 := NB387_393.out; obtain ⟨hcz54_0, hcz54_1, hcz54_2, hcz54_3, hfz54_0, hfz54_1, hfz54_2, hfz54_3⟩ := ch4_ BK393; obtain ⟨hcz55_0, hcz55_1, hcz55_2, hcz55_3, hfz55_0, hfz55_1, hfz55_2, hfz55_3⟩ := ch4_ BK387))
      go_roundg k2
      case measure => have := HJ19.out; have := HK2.out; omega
      case rel => exact ⟨(wrap64 (x32_2 + 1)), (x374000_2), (x374001_2), (x374002_2), (x374003_2), (t388), (t389), (t390), (t391), en_, H', ⟨by have := HJ19.out; have := HK2.out; omega⟩, bp_ BK372, bp_ BK373, bp_ BK387, bw_ HB⟩
     simp only [Option.some.injEq, Prod.mk.injEq] at H
     obtain ⟨rfl, rfl, rfl, rfl, rfl⟩ := H
     have hnb56 := NB387_372.out
     have hnc56 := NB372_387.out
     have hnb57 := NB387_373.out
     have hnc57 := NB373_387.out
     obtain ⟨hcz58_0, hcz58_1, hcz58_2, hcz58_3, hfz58_0, hfz58_1, hfz58_2, hfz58_3⟩ := ch4_ BK387
     have hnb59 := NB372_373.out
     have hnc59 := NB373_372.out
     obtain ⟨hcz60_0, hcz60_1, hcz60_2, hcz60_3, hfz60_0, hfz60_1, hfz60_2, hfz60_3⟩ := ch4_ BK372
     go_wp2_with (first | ((refine gc_ 26 ?_); refine ge_ 37 Try.func26 #[.agg #[.int .i64 x388000_2, .int .i64 x388001_2, .int .i64 x388002_2, .int .i64 x388003_2], .agg #[.int .i64 x373000_19, .int .i64 x373001_19, .int .i64 x373002_19, .int .i64 x373003_19]] ?_; (with_reducible refine (impl_product.calls k2 x388000_2 x388001_2 x388002_2 x388003_2 x373000_19 x373001_19 x373002_19 x373003_19 t388 t389 t390 t391 false _ A42.out).mono ?_); rintro e w61 ⟨rfl, hb⟩; refine ⟨_, rfl, ?_⟩; replace BK372 := bb_ BK372 hb; replace BK373 := bb_ BK373 hb; replace BK387 := bb_ BK387 hb; replace HB := bt_ HB hb; (try clear hb)) | ((refine gd_ 7 ?_); refine by_ 7 #[.int .i64 0, .int .i64 0, .int .i64 0, .int .i64 0] 26 HB ?_; intro gb393 hg w62 BK393 hb GW393 HB_; have NB372_393 := bm_ BK372 hg; have NB393_372 := bn_ BK372 hg; have NB373_393 := bm_ BK373 hg; have NB393_373 := bn_ BK373 hg; have NB387_393 := bm_ BK387 hg; have NB393_387 := bn_ BK387 hg; replace BK372 := bb_ BK372 hb; replace BK373 := bb_ BK373 hb; replace BK387 := bb_ BK387 hb; replace HB := HB_; clear hb hg; have hnb63 := NB393_372.out; have hnc63 := NB372_393.out; have hnb64 := NB393_373.out; have hnc64 := NB373_393.out; have hnb65 := NB393_387.out; have hnc65 := NB387_393.out; obtain ⟨hcz66_0, hcz66_1, hcz66_2, hcz66_3, hfz66_0, hfz66_1, hfz66_2, hfz66_3⟩ := ch4_ BK393; obtain ⟨hcz67_0, hcz67_1, hcz67_2, hcz67_3, hfz67_0, hfz67_1, hfz67_2, hfz67_3⟩ := ch4_ BK373))
     refine bodyPost_ret (results_ct rfl _ _ gb373 26 #[.int .i64 0, .int .i64 0, .int .i64 0, .int .i64 0] (0, 0) _ rfl (bp_ BK373).out Try.underlying26 rfl (by kernel_rfl)) rfl ?_
     exact ⟨es_, (bw_ HB).out⟩
    simp only [Option.some.injEq, Prod.mk.injEq] at H
    obtain ⟨rfl, rfl, rfl, rfl, rfl⟩ := H
    have hnb68 := NB387_372.out
    have hnc68 := NB372_387.out
    have hnb69 := NB387_373.out
    have hnc69 := NB373_387.out
    obtain ⟨hcz70_0, hcz70_1, hcz70_2, hcz70_3, hfz70_0, hfz70_1, hfz70_2, hfz70_3⟩ := ch4_ BK387
    have hnb71 := NB373_372.out
    have hnc71 := NB372_373.out
    obtain ⟨hcz72_0, hcz72_1, hcz72_2, hcz72_3, hfz72_0, hfz72_1, hfz72_2, hfz72_3⟩ := ch4_ BK373
    go_wp2
    refine bodyPost_ret (results_ct rfl _ _ gb373 26 #[.int .i64 x388000_2, .int .i64 x388001_2, .int .i64 x388002_2, .int .i64 x388003_2] (0, 0) _ rfl (bp_ BK373).out Try.underlying26 rfl (by kernel_rfl)) rfl ?_
    exact ⟨es_, (bw_ HB).out⟩
 simp only [Option.some.injEq, Prod.mk.injEq] at H
 obtain ⟨rfl, rfl, rfl, rfl, rfl⟩ := H
 go_enter Try.func17, Try.ntmps17
 go_wp2_with (first | ((refine gd_ 2 ?_); refine by_ 2 #[.int .i64 a0_0, .int .i64 a0_1, .int .i64 a0_2, .int .i64 a0_3] 26 HB ?_; intro gb372 hg w73 BK372 hb GW372 HB_; replace HB := HB_; clear hb hg) | ((refine gd_ 4 ?_); refine by_ 4 #[.int .i64 0, .int .i64 0, .int .i64 0, .int .i64 0] 26 HB ?_; intro gb373 hg w74 BK373 hb GW373 HB_; have NB372_373 := bm_ BK372 hg; have NB373_372 := bn_ BK372 hg; replace BK372 := bb_ BK372 hb; replace HB := HB_; clear hb hg; have hnb75 := NB372_373.out; have hnc75 := NB373_372.out; obtain ⟨hcz76_0, hcz76_1, hcz76_2, hcz76_3, hfz76_0, hfz76_1, hfz76_2, hfz76_3⟩ := ch4_ BK372) | ((refine gc_ 8 ?_); refine ge_ 11 Try.func8 #[.agg #[.int .i64 a0_0, .int .i64 a0_1, .int .i64 a0_2, .int .i64 a0_3]] ?_; (with_reducible refine (impl_IsMatrix.calls k a0_0 a0_1 a0_2 a0_3 false _ A3.out).mono ?_); rintro e w77 ⟨rfl, hb⟩; refine ⟨_, rfl, ?_⟩; replace BK372 := bb_ BK372 hb; replace BK373 := bb_ BK373 hb; replace HB := bt_ HB hb; (try clear hb); obtain ⟨hcz78_0, hcz78_1, hcz78_2, hcz78_3, hfz78_0, hfz78_1, hfz78_2, hfz78_3⟩ := ch4_ BK373))
 refine bodyPost_ret (results_ct rfl _ _ gb373 26 #[.int .i64 0, .int .i64 0, .int .i64 0, .int .i64 0] (0, 0) _ rfl (bp_ BK373).out Try.underlying26 rfl (by kernel_rfl)) rfl ?_
 exact ⟨es_, (bw_ HB).out⟩
end Go.Proofs.Yteniblbnmcfmjaa.QM
