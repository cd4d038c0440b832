import Derived.Test.YtgoeelhiffbjlaaQPx9
import Derived.Test.YtgoeelhiffbjlaaQPx13
import Derived.Test.YtgoeelhiffbjlaaQPx20
import Derived.Test.YtgoeelhiffbjlaaQPx31
import Derived.Test.YtgoeelhiffbjlaaQPx44
namespace Go.Proofs.Ytgoeelhiffbjlaa.QP
set_option maxHeartbeats 8000000
set_option maxRecDepth 100000
open Go.RowKit Go.Proofs.YtgoeelhiffbjlaaW.PrintWords Go.Proofs.YtgoeelhiffbjlaaW.PrintLast Go.Proofs.YtgoeelhiffbjlaaW.PrintMore
attribute [local go_sem] isSome_setCell max2_int min2_int max_two min_two max_three min_three max_four min_four
set_option linter.unusedVariables false
set_option linter.unusedSimpArgs false

/-! ### spec_DrawParentPlace: function 53 -/
def spec_DrawParentPlace.f (k : Nat) (l0 : List Int) : Option (Int × Int) := (spec_l01From.f k l0).bind fun bt601 => ((spec_l01Pick.f bt601.1 bt601.2.1 bt601.2.2 (([2, 3, 5, 7, 2, 4] : List Int))).bind fun bt608 => ((spec_l01Next.f bt601.1 bt608.2.1 bt608.2.2 20).bind fun bt611 => ((spec_l01Near.f bt601.1 bt611.2.1 bt611.2.2 499).bind fun bt614 => ((spec_l01Pick.f bt601.1 bt614.2.1 bt614.2.2 (([bt611.1, wrap64 (1 + bt614.1)] : List Int))).bind fun bt620 => (some (bt608.1, bt620.1))))))
theorem spec_DrawParentPlace.calls (k : Nat) (A0 : Option Addr) (c0 : Nat) (l0 : List Int) (r1 r2 : Int) (w : World) (hr0 : Kd.C (Kd.int .u8) w A0 l0.length l0) (hc0 : l0.length ≤ c0) (h : spec_DrawParentPlace.f k l0 = some (r1, r2)) :
  Calls Try.prog 53 #[.slice A0 l0.length c0] w fun e w' => e = .returned (.tuple #[.int .i64 r1, .int .i64 r2]) ∧ Below w.heap.size w w' := by
 have HR0 := Aside0.mk hr0
 have HC0 := Aside0.mk hc0
 clear hr0 hc0
 have HB := Aside0.mk (Below.refl w.heap.size w)
 unfold spec_DrawParentPlace.f at h
 have H := h
 clear h
 replace H := oc_ H
 obtain ⟨⟨t601, t602, t603⟩, A2, H⟩ := H
 obtain ⟨y605, hy605⟩ : ∃ y_ : List Int, y_ = (([2, 3, 5, 7, 2, 4] : List Int)) := ⟨_, rfl⟩
 replace H : ((spec_l01Pick.f t601 t602 t603 y605).bind fun bt608 => ((spec_l01Next.f t601 bt608.2.1 bt608.2.2 20).bind fun bt611 => ((spec_l01Near.f t601 bt611.2.1 bt611.2.2 499).bind fun bt614 => ((spec_l01Pick.f t601 bt614.2.1 bt614.2.2 (([bt611.1, wrap64 (1 + bt614.1)] : List Int))).bind fun bt620 => (some (bt608.1, bt620.1)))))) = some (r1, r2) := by first | (rw [hy605]; with_reducible exact H) | (have H2_ := (Option.bind_some _ _).symm.trans H; rw [hy605]; with_reducible exact H2_) | (have H2_ := (Option.bind_some _ _).symm.trans H; with_reducible exact H2_) | with_reducible exact H | (rw [hy605]; exact H) | exact H
 have Ny605 := Aside0.mk hy605
 clear hy605
 replace H := oc_ H
 obtain ⟨⟨t608, t609, t610⟩, A3, H⟩ := H
 replace H := oc_ H
 obtain ⟨⟨t611, t612, t613⟩, A4, H⟩ := H
 replace H := oc_ H
 obtain ⟨⟨t614, t615, t616⟩, A5, H⟩ := H
 obtain ⟨y617, hy617⟩ : ∃ y_ : List Int, y_ = (([t611, wrap64 (1 + t614)] : List Int)) := ⟨_, rfl⟩
 replace H : ((spec_l01Pick.f t601 t615 t616 y617).bind fun bt620 => (some (t608, bt620.1))) = some (r1, r2) := by first | (rw [hy617]; with_reducible exact H) | (have H2_ := (Option.bind_some _ _).symm.trans H; rw [hy617]; with_reducible exact H2_) | (have H2_ := (Option.bind_some _ _).symm.trans H; with_reducible exact H2_) | with_reducible exact H | (rw [hy617]; exact H) | exact H
 have Ny617 := Aside0.mk hy617
 clear hy617
 replace H := oc_ H
 obtain ⟨⟨t620, t621, t622⟩, A6, H⟩ := H
 simp only [Option.some.injEq, Prod.mk.injEq] at H
 obtain ⟨rfl, rfl⟩ := H
 go_enter Try.func53, Try.ntmps53
 go_wp2_with (first | ((refine gc_ 73 ?_); refine ge_ 6 Try.func73 #[.slice A0 l0.length c0] ?_; (with_reducible refine (spec_l01From.calls k _ _ l0 t601 t602 t603 w _ ?side1 ?side2 ?side3 A2.out).mono ?_); (case side1 => repeat (first | (with_reducible first | exact HB.out | apply below_alloc | apply pw_below_drewN | apply below_drew1) | exact HB.out)); (case side2 => exact HR0.out); (case side3 => exact HC0.out); rintro e w7 ⟨g604, rfl, hi, hb, hb2⟩; refine ⟨_, rfl, ?_⟩; have HI604 := Aside0.mk (hi); replace HB := Aside0.mk (hb); (try clear hb); (try clear hb2); (try clear hi)) | ((refine gd_ 8 ?_); refine Kd.R_lit (Kd.int .i64) _ 2 ?hg (N := 8) ?hd (xs := ([2, 3, 5, 7, 2, 4] : List Int)) (inner := [.int .i64 2, .int .i64 3, .int .i64 5, .int .i64 7, .int .i64 2, .int .i64 4]) (ok := fun _ => True) (okp := fun _ => True) ?hr ?hp (fun _ hk => hk) trivial (Below.refl _ _) (Nat.le_refl _) (by simp) ?_; (case hd => rfl); (case hg => rfl); (case hr => first | (go_simp; done) | (go_simp; rfl)); (case hp => exact (Reps.one (show Kd.M (Kd.int .i64) _ _ _ 2 [.int .i64 2] from rfl) (Reps.one (show Kd.M (Kd.int .i64) _ _ _ 3 [.int .i64 3] from rfl) (Reps.one (show Kd.M (Kd.int .i64) _ _ _ 5 [.int .i64 5] from rfl) (Reps.one (show Kd.M (Kd.int .i64) _ _ _ 7 [.int .i64 7] from rfl) (Reps.one (show Kd.M (Kd.int .i64) _ _ _ 2 [.int .i64 2] from rfl) (Reps.one (show Kd.M (Kd.int .i64) _ _ _ 4 [.int .i64 4] from rfl) (Reps.none _ _)))))))); intro v606 w8 ho9 hb hg_ hnew_; clear hg_ hnew_; (first | rw [← Ny605.out] at ho9 | (simp only [Int.reduceToNat] at ho9; rw [← Ny605.out] at ho9)); have HO607 := Aside0.mk (Kd.R_lower ho9 (below_size (by repeat (first | (with_reducible first | exact HB.out | apply below_alloc | apply pw_below_drewN | apply below_drew1 | refine below_set ?_ (IsS164.ge HI604.out)) | exact HB.out)))); replace HB := Aside0.mk (below_step (by repeat (first | (with_reducible first | exact HB.out | apply below_alloc | apply pw_below_drewN | apply below_drew1 | refine below_set ?_ (IsS164.ge HI604.out)) | exact HB.out)) hb); replace HI604 := Aside0.mk (IsS164.below (by repeat (first | (with_reducible first | exact HI604.out | apply IsS164.alloc | apply IsS164.drewN | apply IsS164.drew | apply IsS164.set_1 | apply IsS164.set_2) | exact HI604.out)) hb); clear hb ho9; obtain ⟨Ao10, co10, eo10⟩ := Kd.R_slice HO607.out; subst eo10) | ((refine gc_ 104 ?_); refine ge_ 9 Try.func104 #[.pointer (some ⟨g604, 0, none⟩), .slice Ao10 y605.length co10] ?_; (with_reducible refine (spec_l01Pick.calls g604 t601 t602 t603 _ _ y605 t608 t609 t610 w _ ?side1 ?side2 ?side3 ?side4 ?side5 A3.out).mono ?_); (case side1 => repeat (first | (with_reducible first | exact HI604.out | apply IsS164.alloc | apply IsS164.drewN | apply IsS164.drew | apply IsS164.set_1 | apply IsS164.set_2) | exact HI604.out)); (case side2 => repeat (first | (with_reducible first | exact HB.out | apply below_alloc | apply pw_below_drewN | apply below_drew1 | refine below_set ?_ (IsS164.ge HI604.out)) | exact HB.out)); (case side3 => exact ca_ (Kd.R_reads' HO607.out).2.2); (case side4 => exact (Kd.R_reads' HO607.out).2.1); (case side5 => exact far_slice (IsS164.own_ne HI604.out HO607.out (by decide))); rintro e w11 ⟨rfl, hi, hb, hk⟩; refine ⟨_, rfl, ?_⟩; replace HO607 := Aside0.mk (Kd.R_mono (Kd.R_keep (IsS164.apart (show IsS164 w _ g604 t601 t602 t603 from by repeat (first | (with_reducible first | exact HI604.out | apply IsS164.alloc | apply IsS164.drewN | apply IsS164.drew | apply IsS164.set_1 | apply IsS164.set_2) | exact HI604.out)) (ra_ HO607.out) (by decide)) hk (fun _ h => h.2)) (fun _ h => h.1)); replace HB := Aside0.mk (hb); replace HI604 := Aside0.mk (hi); (try clear hb); (try clear hk); (try clear hi)) | ((refine gc_ 108 ?_); refine ge_ 12 Try.func108 #[.pointer (some ⟨g604, 0, none⟩), .int .i64 20] ?_; (with_reducible refine (spec_l01Next.calls g604 t601 t609 t610 20 t611 t612 t613 w _ ?side1 ?side2 A4.out).mono ?_); (case side1 => repeat (first | (with_reducible first | exact HI604.out | apply IsS164.alloc | apply IsS164.drewN | apply IsS164.drew | apply IsS164.set_1 | apply IsS164.set_2) | exact HI604.out)); (case side2 => repeat (first | (with_reducible first | exact HB.out | apply below_alloc | apply pw_below_drewN | apply below_drew1 | refine below_set ?_ (IsS164.ge HI604.out)) | exact HB.out)); rintro e w12 ⟨rfl, hi, hb, hk⟩; refine ⟨_, rfl, ?_⟩; replace HO607 := Aside0.mk (Kd.R_mono (Kd.R_keep (IsS164.apart (show IsS164 w _ g604 t601 t609 t610 from by repeat (first | (with_reducible first | exact HI604.out | apply IsS164.alloc | apply IsS164.drewN | apply IsS164.drew | apply IsS164.set_1 | apply IsS164.set_2) | exact HI604.out)) (ra_ HO607.out) (by decide)) hk (fun _ h => h.2)) (fun _ h => h.1)); replace HB := Aside0.mk (hb); replace HI604 := Aside0.mk (hi); (try clear hb); (try clear hk); (try clear hi)) | ((refine gc_ 110 ?_); refine ge_ 14 Try.func110 #[.pointer (some ⟨g604, 0, none⟩), .int .i64 499] ?_; (with_reducible refine (spec_l01Near.calls g604 t601 t612 t613 499 t614 t615 t616 w _ ?side1 ?side2 A5.out).mono ?_); (case side1 => repeat (first | (with_reducible first | exact HI604.out | apply IsS164.alloc | apply IsS164.drewN | apply IsS164.drew | apply IsS164.set_1 | apply IsS164.set_2) | exact HI604.out)); (case side2 => repeat (first | (with_reducible first | exact HB.out | apply below_alloc | apply pw_below_drewN | apply below_drew1 | refine below_set ?_ (IsS164.ge HI604.out)) | exact HB.out)); rintro e w13 ⟨rfl, hi, hb, hk⟩; refine ⟨_, rfl, ?_⟩; replace HO607 := Aside0.mk (Kd.R_mono (Kd.R_keep (IsS164.apart (show IsS164 w _ g604 t601 t612 t613 from by repeat (first | (with_reducible first | exact HI604.out | apply IsS164.alloc | apply IsS164.drewN | apply IsS164.drew | apply IsS164.set_1 | apply IsS164.set_2) | exact HI604.out)) (ra_ HO607.out) (by decide)) hk (fun _ h => h.2)) (fun _ h => h.1)); replace HB := Aside0.mk (hb); replace HI604 := Aside0.mk (hi); (try clear hb); (try clear hk); (try clear hi)) | ((refine gd_ 16 ?_); refine Kd.R_lit (Kd.int .i64) _ 2 ?hg (N := 16) ?hd (xs := ([t611, wrap64 (1 + t614)] : List Int)) (inner := [.int .i64 t611, .int .i64 (wrap64 (1 + t614))]) (ok := fun _ => True) (okp := fun _ => True) ?hr ?hp (fun _ hk => hk) trivial (Below.refl _ _) (Nat.le_refl _) (by simp) ?_; (case hd => rfl); (case hg => rfl); (case hr => first | (go_simp; done) | (go_simp; rfl)); (case hp => exact (Reps.one (show Kd.M (Kd.int .i64) _ _ _ t611 [.int .i64 t611] from rfl) (Reps.one (show Kd.M (Kd.int .i64) _ _ _ (wrap64 (1 + t614)) [.int .i64 (wrap64 (1 + t614))] from rfl) (Reps.none _ _)))); intro v618 w14 ho15 hb hg_ hnew_; clear hg_ hnew_; (first | rw [← Ny617.out] at ho15 | (simp only [Int.reduceToNat] at ho15; rw [← Ny617.out] at ho15)); have HO619 := Aside0.mk (Kd.R_lower (Kd.R_new' ho15 (Kd.R_lt (ra_ HO607.out))) (below_size (by repeat (first | (with_reducible first | exact HB.out | apply below_alloc | apply pw_below_drewN | apply below_drew1 | refine below_set ?_ (IsS164.ge HI604.out)) | exact HB.out)))); replace HO607 := Aside0.mk (Kd.R_elder' (ra_ HO607.out) (Kd.R_base ho15) hb); replace HB := Aside0.mk (below_step (by repeat (first | (with_reducible first | exact HB.out | apply below_alloc | apply pw_below_drewN | apply below_drew1 | refine below_set ?_ (IsS164.ge HI604.out)) | exact HB.out)) hb); replace HI604 := Aside0.mk (IsS164.below (by repeat (first | (with_reducible first | exact HI604.out | apply IsS164.alloc | apply IsS164.drewN | apply IsS164.drew | apply IsS164.set_1 | apply IsS164.set_2) | exact HI604.out)) hb); clear hb ho15; obtain ⟨Ao16, co16, eo16⟩ := Kd.R_slice HO619.out; subst eo16) | ((refine gc_ 104 ?_); refine ge_ 17 Try.func104 #[.pointer (some ⟨g604, 0, none⟩), .slice Ao16 y617.length co16] ?_; (with_reducible refine (spec_l01Pick.calls g604 t601 t615 t616 _ _ y617 t620 t621 t622 w _ ?side1 ?side2 ?side3 ?side4 ?side5 A6.out).mono ?_); (case side1 => repeat (first | (with_reducible first | exact HI604.out | apply IsS164.alloc | apply IsS164.drewN | apply IsS164.drew | apply IsS164.set_1 | apply IsS164.set_2) | exact HI604.out)); (case side2 => repeat (first | (with_reducible first | exact HB.out | apply below_alloc | apply pw_below_drewN | apply below_drew1 | refine below_set ?_ (IsS164.ge HI604.out)) | exact HB.out)); (case side3 => exact ca_ (Kd.R_reads' HO619.out).2.2); (case side4 => exact (Kd.R_reads' HO619.out).2.1); (case side5 => exact far_slice (IsS164.own_ne HI604.out HO619.out (by decide))); rintro e w17 ⟨rfl, hi, hb, hk⟩; refine ⟨_, rfl, ?_⟩; replace HO607 := Aside0.mk (Kd.R_mono (Kd.R_keep (IsS164.apart (show IsS164 w _ g604 t601 t615 t616 from by repeat (first | (with_reducible first | exact HI604.out | apply IsS164.alloc | apply IsS164.drewN | apply IsS164.drew | apply IsS164.set_1 | apply IsS164.set_2) | exact HI604.out)) (ra_ HO607.out) (by decide)) hk (fun _ h => h.2)) (fun _ h => h.1)); replace HO619 := Aside0.mk (Kd.R_mono (Kd.R_keep (IsS164.apart (show IsS164 w _ g604 t601 t615 t616 from by repeat (first | (with_reducible first | exact HI604.out | apply IsS164.alloc | apply IsS164.drewN | apply IsS164.drew | apply IsS164.set_1 | apply IsS164.set_2) | exact HI604.out)) (ra_ HO619.out) (by decide)) hk (fun _ h => h.2)) (fun _ h => h.1)); replace HB := Aside0.mk (hb); replace HI604 := Aside0.mk (hi); (try clear hb); (try clear hk); (try clear hi)))
 go_ret2
 exact ⟨es_, by repeat (first | (with_reducible first | exact HB.out | apply below_alloc | apply pw_below_drewN | apply below_drew1 | refine below_set ?_ (IsS164.ge HI604.out)) | exact HB.out)⟩
/-! ### spec_ParentPlace: function 54 -/
def spec_ParentPlace.f (a0 a1 : Int) : Option (Int × Int) := (spec_l01Prime.f a0).bind fun t623 => (if t623 = true then ((spec_l01In.f a1 1 500).bind fun t624 => (if t624 = true then ((spec_l07Parent.f a0 a1).bind fun t625 => (some (t625, 0))) else (some (0, 2)))) else (some (0, 1)))
theorem spec_ParentPlace.calls (a0 a1 r1 r2 : Int) (w : World) (h : spec_ParentPlace.f a0 a1 = some (r1, r2)) :
  Calls Try.prog 54 #[.int .i64 a0, .int .i64 a1] w fun e w' => e = .returned (.tuple #[.int .i64 r1, .int .i64 r2]) ∧ Drawn0 w w' := by
 unfold spec_ParentPlace.f at h
 have H := h
 clear h
 replace H := oc_ H
 obtain ⟨t623, A3, H⟩ := H
 replace H := ib_ H
 rcases H with ⟨rfl, H⟩ | ⟨rfl, H⟩
 ·replace H := oc_ H
  obtain ⟨t624, A5, H⟩ := H
  replace H := ib_ H
  rcases H with ⟨rfl, H⟩ | ⟨rfl, H⟩
  ·replace H := oc_ H
   obtain ⟨t625, A7, H⟩ := H
   simp only [Option.some.injEq, Prod.mk.injEq] at H
   obtain ⟨rfl, rfl⟩ := H
   go_enter Try.func54, Try.ntmps54
   go_wp2_with (first | ((refine gc_ 121 ?_); refine ge_ 8 Try.func121 #[.int .i64 a0] ?_; (with_reducible refine (spec_l01Prime.calls a0 true _ A3.out).mono ?_); rintro e w' ⟨rfl, ⟨nd, rfl⟩⟩; refine ⟨_, rfl, ?_⟩) | ((refine gc_ 109 ?_); refine ge_ 12 Try.func109 #[.int .i64 a1, .int .i64 1, .int .i64 500] ?_; (with_reducible refine (spec_l01In.calls a1 1 500 true _ A5.out).mono ?_); rintro e w' ⟨rfl, ⟨nd, rfl⟩⟩; refine ⟨_, rfl, ?_⟩) | ((refine gc_ 127 ?_); refine ge_ 16 Try.func127 #[.int .i64 a0, .int .i64 a1] ?_; (with_reducible refine (spec_l07Parent.calls a0 a1 t625 _ A7.out).mono ?_); rintro e w' ⟨rfl, ⟨nd, rfl⟩⟩; refine ⟨_, rfl, ?_⟩))
   go_ret2
   exact ⟨en_, de_⟩
  simp only [Option.some.injEq, Prod.mk.injEq] at H
  obtain ⟨rfl, rfl⟩ := H
  go_enter Try.func54, Try.ntmps54
  go_wp2_with (first | ((refine gc_ 121 ?_); refine ge_ 8 Try.func121 #[.int .i64 a0] ?_; (with_reducible refine (spec_l01Prime.calls a0 true _ A3.out).mono ?_); rintro e w' ⟨rfl, ⟨nd, rfl⟩⟩; refine ⟨_, rfl, ?_⟩) | ((refine gc_ 109 ?_); refine ge_ 12 Try.func109 #[.int .i64 a1, .int .i64 1, .int .i64 500] ?_; (with_reducible refine (spec_l01In.calls a1 1 500 false _ A5.out).mono ?_); rintro e w' ⟨rfl, ⟨nd, rfl⟩⟩; refine ⟨_, rfl, ?_⟩))
  go_ret2
  exact ⟨en_, de_⟩
 simp only [Option.some.injEq, Prod.mk.injEq] at H
 obtain ⟨rfl, rfl⟩ := H
 go_enter Try.func54, Try.ntmps54
 go_wp2_with (first | ((refine gc_ 121 ?_); refine ge_ 8 Try.func121 #[.int .i64 a0] ?_; (with_reducible refine (spec_l01Prime.calls a0 false _ A3.out).mono ?_); rintro e w' ⟨rfl, ⟨nd, rfl⟩⟩; refine ⟨_, rfl, ?_⟩))
 go_ret2
 exact ⟨en_, de_⟩
/-! ### spec_DrawRegionSize: function 55 -/
def spec_DrawRegionSize.f (k : Nat) (l0 : List Int) : Option (Int × Int) := (spec_l01From.f k l0).bind fun bt626 => ((spec_l01Pick.f bt626.1 bt626.2.1 bt626.2.2 (([2, 3, 5, 7, 4] : List Int))).bind fun bt633 => ((spec_l01Near.f bt626.1 bt633.2.1 bt633.2.2 4).bind fun bt636 => (some (bt633.1, bt636.1))))
theorem spec_DrawRegionSize.calls (k : Nat) (A0 : Option Addr) (c0 : Nat) (l0 : List Int) (r1 r2 : Int) (w : World) (hr0 : Kd.C (Kd.int .u8) w A0 l0.length l0) (hc0 : l0.length ≤ c0) (h : spec_DrawRegionSize.f k l0 = some (r1, r2)) :
  Calls Try.prog 55 #[.slice A0 l0.length c0] w fun e w' => e = .returned (.tuple #[.int .i64 r1, .int .i64 r2]) ∧ Below w.heap.size w w' := by
 have HR0 := Aside0.mk hr0
 have HC0 := Aside0.mk hc0
 clear hr0 hc0
 have HB := Aside0.mk (Below.refl w.heap.size w)
 unfold spec_DrawRegionSize.f at h
 have H := h
 clear h
 replace H := oc_ H
 obtain ⟨⟨t626, t627, t628⟩, A2, H⟩ := H
 obtain ⟨y630, hy630⟩ : ∃ y_ : List Int, y_ = (([2, 3, 5, 7, 4] : List Int)) := ⟨_, rfl⟩
 replace H : ((spec_l01Pick.f t626 t627 t628 y630).bind fun bt633 => ((spec_l01Near.f t626 bt633.2.1 bt633.2.2 4).bind fun bt636 => (some (bt633.1, bt636.1)))) = some (r1, r2) := by first | (rw [hy630]; with_reducible exact H) | (have H2_ := (Option.bind_some _ _).symm.trans H; rw [hy630]; with_reducible exact H2_) | (have H2_ := (Option.bind_some _ _).symm.trans H; with_reducible exact H2_) | with_reducible exact H | (rw [hy630]; exact H) | exact H
 have Ny630 := Aside0.mk hy630
 clear hy630
 replace H := oc_ H
 obtain ⟨⟨t633, t634, t635⟩, A3, H⟩ := H
 replace H := oc_ H
 obtain ⟨⟨t636, t637, t638⟩, A4, H⟩ := H
 simp only [Option.some.injEq, Prod.mk.injEq] at H
 obtain ⟨rfl, rfl⟩ := H
 go_enter Try.func55, Try.ntmps55
 go_wp2_with (first | ((refine gc_ 73 ?_); refine ge_ 6 Try.func73 #[.slice A0 l0.length c0] ?_; (with_reducible refine (spec_l01From.calls k _ _ l0 t626 t627 t628 w _ ?side1 ?side2 ?side3 A2.out).mono ?_); (case side1 => repeat (first | (with_reducible first | exact HB.out | apply below_alloc | apply pw_below_drewN | apply below_drew1) | exact HB.out)); (case side2 => exact HR0.out); (case side3 => exact HC0.out); rintro e w5 ⟨g629, rfl, hi, hb, hb2⟩; refine ⟨_, rfl, ?_⟩; have HI629 := Aside0.mk (hi); replace HB := Aside0.mk (hb); (try clear hb); (try clear hb2); (try clear hi)) | ((refine gd_ 8 ?_); refine Kd.R_lit (Kd.int .i64) _ 2 ?hg (N := 8) ?hd (xs := ([2, 3, 5, 7, 4] : List Int)) (inner := [.int .i64 2, .int .i64 3, .int .i64 5, .int .i64 7, .int .i64 4]) (ok := fun _ => True) (okp := fun _ => True) ?hr ?hp (fun _ hk => hk) trivial (Below.refl _ _) (Nat.le_refl _) (by simp) ?_; (case hd => rfl); (case hg => rfl); (case hr => first | (go_simp; done) | (go_simp; rfl)); (case hp => exact (Reps.one (show Kd.M (Kd.int .i64) _ _ _ 2 [.int .i64 2] from rfl) (Reps.one (show Kd.M (Kd.int .i64) _ _ _ 3 [.int .i64 3] from rfl) (Reps.one (show Kd.M (Kd.int .i64) _ _ _ 5 [.int .i64 5] from rfl) (Reps.one (show Kd.M (Kd.int .i64) _ _ _ 7 [.int .i64 7] from rfl) (Reps.one (show Kd.M (Kd.int .i64) _ _ _ 4 [.int .i64 4] from rfl) (Reps.none _ _))))))); intro v631 w6 ho7 hb hg_ hnew_; clear hg_ hnew_; (first | rw [← Ny630.out] at ho7 | (simp only [Int.reduceToNat] at ho7; rw [← Ny630.out] at ho7)); have HO632 := Aside0.mk (Kd.R_lower ho7 (below_size (by repeat (first | (with_reducible first | exact HB.out | apply below_alloc | apply pw_below_drewN | apply below_drew1 | refine below_set ?_ (IsS164.ge HI629.out)) | exact HB.out)))); replace HB := Aside0.mk (below_step (by repeat (first | (with_reducible first | exact HB.out | apply below_alloc | apply pw_below_drewN | apply below_drew1 | refine below_set ?_ (IsS164.ge HI629.out)) | exact HB.out)) hb); replace HI629 := Aside0.mk (IsS164.below (by repeat (first | (with_reducible first | exact HI629.out | apply IsS164.alloc | apply IsS164.drewN | apply IsS164.drew | apply IsS164.set_1 | apply IsS164.set_2) | exact HI629.out)) hb); clear hb ho7; obtain ⟨Ao8, co8, eo8⟩ := Kd.R_slice HO632.out; subst eo8) | ((refine gc_ 104 ?_); refine ge_ 9 Try.func104 #[.pointer (some ⟨g629, 0, none⟩), .slice Ao8 y630.length co8] ?_; (with_reducible refine (spec_l01Pick.calls g629 t626 t627 t628 _ _ y630 t633 t634 t635 w _ ?side1 ?side2 ?side3 ?side4 ?side5 A3.out).mono ?_); (case side1 => repeat (first | (with_reducible first | exact HI629.out | apply IsS164.alloc | apply IsS164.drewN | apply IsS164.drew | apply IsS164.set_1 | apply IsS164.set_2) | exact HI629.out)); (case side2 => repeat (first | (with_reducible first | exact HB.out | apply below_alloc | apply pw_below_drewN | apply below_drew1 | refine below_set ?_ (IsS164.ge HI629.out)) | exact HB.out)); (case side3 => exact ca_ (Kd.R_reads' HO632.out).2.2); (case side4 => exact (Kd.R_reads' HO632.out).2.1); (case side5 => exact far_slice (IsS164.own_ne HI629.out HO632.out (by decide))); rintro e w9 ⟨rfl, hi, hb, hk⟩; refine ⟨_, rfl, ?_⟩; replace HO632 := Aside0.mk (Kd.R_mono (Kd.R_keep (IsS164.apart (show IsS164 w _ g629 t626 t627 t628 from by repeat (first | (with_reducible first | exact HI629.out | apply IsS164.alloc | apply IsS164.drewN | apply IsS164.drew | apply IsS164.set_1 | apply IsS164.set_2) | exact HI629.out)) (ra_ HO632.out) (by decide)) hk (fun _ h => h.2)) (fun _ h => h.1)); replace HB := Aside0.mk (hb); replace HI629 := Aside0.mk (hi); (try clear hb); (try clear hk); (try clear hi)) | ((refine gc_ 110 ?_); refine ge_ 11 Try.func110 #[.pointer (some ⟨g629, 0, none⟩), .int .i64 4] ?_; (with_reducible refine (spec_l01Near.calls g629 t626 t634 t635 4 t636 t637 t638 w _ ?side1 ?side2 A4.out).mono ?_); (case side1 => repeat (first | (with_reducible first | exact HI629.out | apply IsS164.alloc | apply IsS164.drewN | apply IsS164.drew | apply IsS164.set_1 | apply IsS164.set_2) | exact HI629.out)); (case side2 => repeat (first | (with_reducible first | exact HB.out | apply below_alloc | apply pw_below_drewN | apply below_drew1 | refine below_set ?_ (IsS164.ge HI629.out)) | exact HB.out)); rintro e w10 ⟨rfl, hi, hb, hk⟩; refine ⟨_, rfl, ?_⟩; replace HO632 := Aside0.mk (Kd.R_mono (Kd.R_keep (IsS164.apart (show IsS164 w _ g629 t626 t634 t635 from by repeat (first | (with_reducible first | exact HI629.out | apply IsS164.alloc | apply IsS164.drewN | apply IsS164.drew | apply IsS164.set_1 | apply IsS164.set_2) | exact HI629.out)) (ra_ HO632.out) (by decide)) hk (fun _ h => h.2)) (fun _ h => h.1)); replace HB := Aside0.mk (hb); replace HI629 := Aside0.mk (hi); (try clear hb); (try clear hk); (try clear hi)))
 go_ret2
 exact ⟨es_, by repeat (first | (with_reducible first | exact HB.out | apply below_alloc | apply pw_below_drewN | apply below_drew1 | refine below_set ?_ (IsS164.ge HI629.out)) | exact HB.out)⟩
/-! ### impl_isReach: function 128 -/
def impl_isReach.f (a0 : Int) : Option (Bool) := if a0 ≥ 0 then (some (decide (a0 ≤ 4))) else (some false)
theorem impl_isReach.calls (a0 : Int) (r : Bool) (w : World) (h : impl_isReach.f a0 = some r) :
  Calls Try.prog 128 #[.int .i64 a0] w fun e w' => e = .returned (.bool r) ∧ Drawn0 w w' := by
 unfold impl_isReach.f at h
 have H := h
 clear h
 replace H := in_ H
 rcases H with ⟨c2b0, H⟩ | ⟨c2b0, H⟩
 ·obtain rfl := si_ H
  go_enter Try.func128, Try.ntmps128
  go_wp2
  go_ret
  exact ⟨en_, de_⟩
 obtain rfl := si_ H
 go_enter Try.func128, Try.ntmps128
 go_wp2
 go_ret
 exact ⟨en_, de_⟩
/-! ### impl_regionSize: function 129 -/
def impl_regionSize.l0 : Nat → Int → Int → Int → Int → Int → Option (Int)
 | 0, _, _, _, _, _ => none
 | k + 1, x0, x5, x6, x9, x10 => if x10 < x9 then (impl_regionSize.l0 k x0 (wrap64 (x5 + x6)) (wrap64 (x6 * x0)) x9 (wrap64 (x10 + 1))) else (some x5)
def impl_regionSize.f (k : Nat) (a0 a1 : Int) : Option (Int) := impl_regionSize.l0 k a0 1 (wrap64 (a0 + 1)) a1 0
theorem impl_regionSize.calls (k : Nat) (a0 a1 r : Int) (w : World) (h : impl_regionSize.f k a0 a1 = some r) :
  Calls Try.prog 129 #[.int .i64 a0, .int .i64 a1] w fun e w' => e = .returned (.int .i64 r) ∧ Drawn0 w w' := by
 unfold impl_regionSize.f at h
 have H := h
 clear h
 have H' := Aside0.mk H
 clear H
 go_enter Try.func129, Try.ntmps129
 go_wp2
 go_loopg [5, 6, 10] k (fun kq v5 v6 v10 w' => ∃ (x5_1 : Int) (x6_1 : Int) (x10_1 : Int), v5 = .int .i64 x5_1 ∧ v6 = .int .i64 x6_1 ∧ v10 = .int .i64 x10_1 ∧ Aside0 (impl_regionSize.l0 kq a0 x5_1 x6_1 a1 x10_1 = some r) ∧ Aside0 (kq ≤ k) ∧ Drawn0 w w')
 case atStart => exact ⟨(1), (wrap64 (a0 + 1)), (0), en_, en_, en_, H', ⟨Nat.le_refl _⟩, de_⟩
 clear H'
 obtain ⟨x5_1, x6_1, x10_1, rfl, rfl, rfl, HA, HK1, ⟨m1, rfl⟩⟩ := hrel
 cases gk with
 | zero => exact absurd HA.out (by simp [impl_regionSize.l0])
 | succ k1 =>
  have H := HA.out
  clear HA
  simp only [impl_regionSize.l0] at H
  replace H := il_ H
  rcases H with ⟨c3b0, H⟩ | ⟨c3b0, H⟩
  ·have H' := Aside0.mk H
   clear H
   go_wp2
   go_roundg k1
   case measure => have := HK1.out; omega
   case rel => exact ⟨(wrap64 (x5_1 + x6_1)), (wrap64 (x6_1 * a0)), (wrap64 (x10_1 + 1)), en_, en_, en_, H', ⟨by have := HK1.out; omega⟩, de_⟩
  obtain rfl := si_ H
  go_wp2
  go_ret
  exact ⟨en_, de_⟩
/-! ### impl_RegionSize: function 56 -/
def impl_RegionSize.f (k : Nat) (a0 a1 : Int) : Option (Int × Int) := (impl_isPrime.f a0).bind fun t639 => (if t639 = true then ((impl_isReach.f a1).bind fun t640 => (if t640 = true then ((impl_regionSize.f k a0 a1).bind fun t641 => (if t641 > 500 then (some (0, 3)) else ((impl_regionSize.f k a0 a1).bind fun t642 => (some (t642, 0))))) else (some (0, 2)))) else (some (0, 1)))
theorem impl_RegionSize.calls (k : Nat) (a0 a1 r1 r2 : Int) (w : World) (h : impl_RegionSize.f k a0 a1 = some (r1, r2)) :
  Calls Try.prog 56 #[.int .i64 a0, .int .i64 a1] w fun e w' => e = .returned (.tuple #[.int .i64 r1, .int .i64 r2]) ∧ Drawn0 w w' := by
 unfold impl_RegionSize.f at h
 have H := h
 clear h
 replace H := oc_ H
 obtain ⟨t639, A3, H⟩ := H
 replace H := ib_ H
 rcases H with ⟨rfl, H⟩ | ⟨rfl, H⟩
 ·replace H := oc_ H
  obtain ⟨t640, A5, H⟩ := H
  replace H := ib_ H
  rcases H with ⟨rfl, H⟩ | ⟨rfl, H⟩
  ·replace H := oc_ H
   obtain ⟨t641, A7, H⟩ := H
   replace H := ig_ H
   rcases H with ⟨c8b0, H⟩ | ⟨c8b0, H⟩
   ·simp only [Option.some.injEq, Prod.mk.injEq] at H
    obtain ⟨rfl, rfl⟩ := H
    go_enter Try.func56, Try.ntmps56
    go_wp2_with (first | ((refine gc_ 118 ?_); refine ge_ 8 Try.func118 #[.int .i64 a0] ?_; (with_reducible refine (impl_isPrime.calls a0 true _ A3.out).mono ?_); rintro e w' ⟨rfl, ⟨nd, rfl⟩⟩; refine ⟨_, rfl, ?_⟩) | ((refine gc_ 128 ?_); refine ge_ 12 Try.func128 #[.int .i64 a1] ?_; (with_reducible refine (impl_isReach.calls a1 true _ A5.out).mono ?_); rintro e w' ⟨rfl, ⟨nd, rfl⟩⟩; refine ⟨_, rfl, ?_⟩) | ((refine gc_ 129 ?_); refine ge_ 17 Try.func129 #[.int .i64 a0, .int .i64 a1] ?_; (with_reducible refine (impl_regionSize.calls k a0 a1 t641 _ A7.out).mono ?_); rintro e w' ⟨rfl, ⟨nd, rfl⟩⟩; refine ⟨_, rfl, ?_⟩))
    go_ret2
    exact ⟨en_, de_⟩
   replace H := oc_ H
   obtain ⟨t642, A9, H⟩ := H
   simp only [Option.some.injEq, Prod.mk.injEq] at H
   obtain ⟨rfl, rfl⟩ := H
   go_enter Try.func56, Try.ntmps56
   go_wp2_with (first | ((refine gc_ 118 ?_); refine ge_ 8 Try.func118 #[.int .i64 a0] ?_; (with_reducible refine (impl_isPrime.calls a0 true _ A3.out).mono ?_); rintro e w' ⟨rfl, ⟨nd, rfl⟩⟩; refine ⟨_, rfl, ?_⟩) | ((refine gc_ 128 ?_); refine ge_ 12 Try.func128 #[.int .i64 a1] ?_; (with_reducible refine (impl_isReach.calls a1 true _ A5.out).mono ?_); rintro e w' ⟨rfl, ⟨nd, rfl⟩⟩; refine ⟨_, rfl, ?_⟩) | ((refine gc_ 129 ?_); refine ge_ 17 Try.func129 #[.int .i64 a0, .int .i64 a1] ?_; (with_reducible refine (impl_regionSize.calls k a0 a1 t641 _ A7.out).mono ?_); rintro e w' ⟨rfl, ⟨nd, rfl⟩⟩; refine ⟨_, rfl, ?_⟩) | ((refine gc_ 129 ?_); refine ge_ 21 Try.func129 #[.int .i64 a0, .int .i64 a1] ?_; (with_reducible refine (impl_regionSize.calls k a0 a1 t642 _ A9.out).mono ?_); rintro e w' ⟨rfl, ⟨nd, rfl⟩⟩; refine ⟨_, rfl, ?_⟩))
   go_ret2
   exact ⟨en_, de_⟩
  simp only [Option.some.injEq, Prod.mk.injEq] at H
  obtain ⟨rfl, rfl⟩ := H
  go_enter Try.func56, Try.ntmps56
  go_wp2_with (first | ((refine gc_ 118 ?_); refine ge_ 8 Try.func118 #[.int .i64 a0] ?_; (with_reducible refine (impl_isPrime.calls a0 true _ A3.out).mono ?_); rintro e w' ⟨rfl, ⟨nd, rfl⟩⟩; refine ⟨_, rfl, ?_⟩) | ((refine gc_ 128 ?_); refine ge_ 12 Try.func128 #[.int .i64 a1] ?_; (with_reducible refine (impl_isReach.calls a1 false _ A5.out).mono ?_); rintro e w' ⟨rfl, ⟨nd, rfl⟩⟩; refine ⟨_, rfl, ?_⟩))
  go_ret2
  exact ⟨en_, de_⟩
 simp only [Option.some.injEq, Prod.mk.injEq] at H
 obtain ⟨rfl, rfl⟩ := H
 go_enter Try.func56, Try.ntmps56
 go_wp2_with (first | ((refine gc_ 118 ?_); refine ge_ 8 Try.func118 #[.int .i64 a0] ?_; (with_reducible refine (impl_isPrime.calls a0 false _ A3.out).mono ?_); rintro e w' ⟨rfl, ⟨nd, rfl⟩⟩; refine ⟨_, rfl, ?_⟩))
 go_ret2
 exact ⟨en_, de_⟩
/-! ### spec_l07Size: function 131 -/
def spec_l07Size.l0 : Nat → Int → Int → Int → Int → Option (Int)
 | 0, _, _, _, _ => none
 | k + 1, x0, x1, x5, x6 => if x1 > 0 then (spec_l07Size.l0 k x0 (wrap64 (x1 - 1)) (wrap64 (x5 + x6)) (wrap64 (x6 * x0))) else (some x5)
def spec_l07Size.f (k : Nat) (a0 a1 : Int) : Option (Int) := spec_l07Size.l0 k a0 a1 1 (wrap64 (a0 + 1))
theorem spec_l07Size.calls (k : Nat) (a0 a1 r : Int) (w : World) (h : spec_l07Size.f k a0 a1 = some r) :
  Calls Try.prog 131 #[.int .i64 a0, .int .i64 a1] w fun e w' => e = .returned (.int .i64 r) ∧ Drawn0 w w' := by
 unfold spec_l07Size.f at h
 have H := h
 clear h
 have H' := Aside0.mk H
 clear H
 go_enter Try.func131, Try.ntmps131
 go_wp2
 go_loopg [1, 5, 6] k (fun kq v1 v5 v6 w' => ∃ (x1_1 : Int) (x5_1 : Int) (x6_1 : Int), v1 = .int .i64 x1_1 ∧ v5 = .int .i64 x5_1 ∧ v6 = .int .i64 x6_1 ∧ Aside0 (spec_l07Size.l0 kq a0 x1_1 x5_1 x6_1 = some r) ∧ Aside0 (kq ≤ k) ∧ Drawn0 w w')
 case atStart => exact ⟨(a1), (1), (wrap64 (a0 + 1)), en_, en_, en_, H', ⟨Nat.le_refl _⟩, de_⟩
 clear H'
 obtain ⟨x1_1, x5_1, x6_1, rfl, rfl, rfl, HA, HK1, ⟨m1, rfl⟩⟩ := hrel
 cases gk with
 | zero => exact absurd HA.out (by simp [spec_l07Size.l0])
 | succ k1 =>
  have H := HA.out
  clear HA
  simp only [spec_l07Size.l0] at H
  replace H := ig_ H
  rcases H with ⟨c3b0, H⟩ | ⟨c3b0, H⟩
  ·have H' := Aside0.mk H
   clear H
   go_wp2
   go_roundg k1
   case measure => have := HK1.out; omega
   case rel => exact ⟨(wrap64 (x1_1 - 1)), (wrap64 (x5_1 + x6_1)), (wrap64 (x6_1 * a0)), en_, en_, en_, H', ⟨by have := HK1.out; omega⟩, de_⟩
  obtain rfl := si_ H
  go_wp2
  go_ret
  exact ⟨en_, de_⟩
end Go.Proofs.Ytgoeelhiffbjlaa.QP
