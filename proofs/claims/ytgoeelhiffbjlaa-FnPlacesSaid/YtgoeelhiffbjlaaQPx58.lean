import Derived.Test.YtgoeelhiffbjlaaQPx9
import Derived.Test.YtgoeelhiffbjlaaQPx31
import Derived.Test.YtgoeelhiffbjlaaQPx13
import Derived.Test.YtgoeelhiffbjlaaQPx20
import Derived.Test.YtgoeelhiffbjlaaQPx37
import Derived.Test.YtgoeelhiffbjlaaQPx44
import Derived.Test.YtgoeelhiffbjlaaQPx47
namespace Go.Proofs.Ytgoeelhiffbjlaa.QP
set_option maxHeartbeats 8000000
set_option maxRecDepth 100000
open Go.RowKit Go.Proofs.YtgoeelhiffbjlaaW.PrintWords Go.Proofs.YtgoeelhiffbjlaaW.PrintLast Go.Proofs.YtgoeelhiffbjlaaW.PrintMore
attribute [local go_sem] isSome_setCell max2_int min2_int max_two min_two max_three min_three max_four min_four
set_option linter.unusedVariables false
set_option linter.unusedSimpArgs false

/-! ### impl_ParentPlace: function 46 -/
def impl_ParentPlace.f (a0 a1 : Int) : Option (Int × Int) := (impl_isPrime.f a0).bind fun t489 => (if t489 = true then (if a1 < 1 then (some (0, 2)) else (if a1 > 500 then (some (0, 2)) else ((impl_parentPlace.f a0 a1).bind fun t490 => (some (t490, 0))))) else (some (0, 1)))
theorem impl_ParentPlace.calls (a0 a1 r1 r2 : Int) (w : World) (h : impl_ParentPlace.f a0 a1 = some (r1, r2)) :
  Calls Try.prog 46 #[.int .i64 a0, .int .i64 a1] w fun e w' => e = .returned (.tuple #[.int .i64 r1, .int .i64 r2]) ∧ Drawn0 w w' := by
 unfold impl_ParentPlace.f at h
 have H := h
 clear h
 replace H := oc_ H
 obtain ⟨t489, A3, H⟩ := H
 replace H := ib_ H
 rcases H with ⟨rfl, H⟩ | ⟨rfl, H⟩
 ·replace H := il_ H
  rcases H with ⟨c5b0, H⟩ | ⟨c5b0, H⟩
  ·simp only [Option.some.injEq, Prod.mk.injEq] at H
   obtain ⟨rfl, rfl⟩ := H
   go_enter Try.func46, Try.ntmps46
   go_wp2_with (first | ((refine gc_ 118 ?_); refine ge_ 8 Try.func118 #[.int .i64 a0] ?_; (with_reducible refine (impl_isPrime.calls a0 true _ A3.out).mono ?_); rintro e w' ⟨rfl, ⟨nd, rfl⟩⟩; refine ⟨_, rfl, ?_⟩))
   go_ret2
   exact ⟨en_, de_⟩
  replace H := ig_ H
  rcases H with ⟨c6b0, H⟩ | ⟨c6b0, H⟩
  ·simp only [Option.some.injEq, Prod.mk.injEq] at H
   obtain ⟨rfl, rfl⟩ := H
   go_enter Try.func46, Try.ntmps46
   go_wp2_with (first | ((refine gc_ 118 ?_); refine ge_ 8 Try.func118 #[.int .i64 a0] ?_; (with_reducible refine (impl_isPrime.calls a0 true _ A3.out).mono ?_); rintro e w' ⟨rfl, ⟨nd, rfl⟩⟩; refine ⟨_, rfl, ?_⟩))
   go_ret2
   exact ⟨en_, de_⟩
  replace H := oc_ H
  obtain ⟨t490, A7, H⟩ := H
  simp only [Option.some.injEq, Prod.mk.injEq] at H
  obtain ⟨rfl, rfl⟩ := H
  go_enter Try.func46, Try.ntmps46
  go_wp2_with (first | ((refine gc_ 118 ?_); refine ge_ 8 Try.func118 #[.int .i64 a0] ?_; (with_reducible refine (impl_isPrime.calls a0 true _ A3.out).mono ?_); rintro e w' ⟨rfl, ⟨nd, rfl⟩⟩; refine ⟨_, rfl, ?_⟩) | ((refine gc_ 119 ?_); refine ge_ 19 Try.func119 #[.int .i64 a0, .int .i64 a1] ?_; (with_reducible refine (impl_parentPlace.calls a0 a1 t490 _ A7.out).mono ?_); rintro e w' ⟨rfl, ⟨nd, rfl⟩⟩; refine ⟨_, rfl, ?_⟩))
  go_ret2
  exact ⟨en_, de_⟩
 simp only [Option.some.injEq, Prod.mk.injEq] at H
 obtain ⟨rfl, rfl⟩ := H
 go_enter Try.func46, Try.ntmps46
 go_wp2_with (first | ((refine gc_ 118 ?_); refine ge_ 8 Try.func118 #[.int .i64 a0] ?_; (with_reducible refine (impl_isPrime.calls a0 false _ A3.out).mono ?_); rintro e w' ⟨rfl, ⟨nd, rfl⟩⟩; refine ⟨_, rfl, ?_⟩))
 go_ret2
 exact ⟨en_, de_⟩
/-! ### spec_DrawChildPlaces: function 47 -/
def spec_DrawChildPlaces.f (k : Nat) (l0 : List Int) : Option (Int × Int) := (spec_l01From.f k l0).bind fun bt491 => ((spec_l01Pick.f bt491.1 bt491.2.1 bt491.2.2 (([2, 3, 5, 7, 2, 4] : List Int))).bind fun bt498 => ((spec_l01Next.f bt491.1 bt498.2.1 bt498.2.2 20).bind fun bt501 => ((spec_l01Near.f bt491.1 bt501.2.1 bt501.2.2 500).bind fun bt504 => ((spec_l01Pick.f bt491.1 bt504.2.1 bt504.2.2 (([bt501.1, bt504.1] : List Int))).bind fun bt510 => (some (bt498.1, bt510.1))))))
theorem spec_DrawChildPlaces.calls (k : Nat) (A0 : Option Addr) (c0 : Nat) (l0 : List Int) (r1 r2 : Int) (w : World) (hr0 : Kd.C (Kd.int .u8) w A0 l0.length l0) (hc0 : l0.length ≤ c0) (h : spec_DrawChildPlaces.f k l0 = some (r1, r2)) :
  Calls Try.prog 47 #[.slice A0 l0.length c0] w fun e w' => e = .returned (.tuple #[.int .i64 r1, .int .i64 r2]) ∧ Below w.heap.size w w' := by
 have HR0 := Aside0.mk hr0
 have HC0 := Aside0.mk hc0
 clear hr0 hc0
 have HB := Aside0.mk (Below.refl w.heap.size w)
 unfold spec_DrawChildPlaces.f at h
 have H := h
 clear h
 replace H := oc_ H
 obtain ⟨⟨t491, t492, t493⟩, A2, H⟩ := H
 obtain ⟨y495, hy495⟩ : ∃ y_ : List Int, y_ = (([2, 3, 5, 7, 2, 4] : List Int)) := ⟨_, rfl⟩
 replace H : ((spec_l01Pick.f t491 t492 t493 y495).bind fun bt498 => ((spec_l01Next.f t491 bt498.2.1 bt498.2.2 20).bind fun bt501 => ((spec_l01Near.f t491 bt501.2.1 bt501.2.2 500).bind fun bt504 => ((spec_l01Pick.f t491 bt504.2.1 bt504.2.2 (([bt501.1, bt504.1] : List Int))).bind fun bt510 => (some (bt498.1, bt510.1)))))) = some (r1, r2) := by first | (rw [hy495]; with_reducible exact H) | (have H2_ := (Option.bind_some _ _).symm.trans H; rw [hy495]; with_reducible exact H2_) | (have H2_ := (Option.bind_some _ _).symm.trans H; with_reducible exact H2_) | with_reducible exact H | (rw [hy495]; exact H) | exact H
 have Ny495 := Aside0.mk hy495
 clear hy495
 replace H := oc_ H
 obtain ⟨⟨t498, t499, t500⟩, A3, H⟩ := H
 replace H := oc_ H
 obtain ⟨⟨t501, t502, t503⟩, A4, H⟩ := H
 replace H := oc_ H
 obtain ⟨⟨t504, t505, t506⟩, A5, H⟩ := H
 obtain ⟨y507, hy507⟩ : ∃ y_ : List Int, y_ = (([t501, t504] : List Int)) := ⟨_, rfl⟩
 replace H : ((spec_l01Pick.f t491 t505 t506 y507).bind fun bt510 => (some (t498, bt510.1))) = some (r1, r2) := by first | (rw [hy507]; with_reducible exact H) | (have H2_ := (Option.bind_some _ _).symm.trans H; rw [hy507]; with_reducible exact H2_) | (have H2_ := (Option.bind_some _ _).symm.trans H; with_reducible exact H2_) | with_reducible exact H | (rw [hy507]; exact H) | exact H
 have Ny507 := Aside0.mk hy507
 clear hy507
 replace H := oc_ H
 obtain ⟨⟨t510, t511, t512⟩, A6, H⟩ := H
 simp only [Option.some.injEq, Prod.mk.injEq] at H
 obtain ⟨rfl, rfl⟩ := H
 go_enter Try.func47, Try.ntmps47
 go_wp2_with (first | ((refine gc_ 73 ?_); refine ge_ 6 Try.func73 #[.slice A0 l0.length c0] ?_; (with_reducible refine (spec_l01From.calls k _ _ l0 t491 t492 t493 w _ ?side1 ?side2 ?side3 A2.out).mono ?_); (case side1 => repeat (first | (with_reducible first | exact HB.out | apply below_alloc | apply pw_below_drewN | apply below_drew1) | exact HB.out)); (case side2 => exact HR0.out); (case side3 => exact HC0.out); rintro e w7 ⟨g494, rfl, hi, hb, hb2⟩; refine ⟨_, rfl, ?_⟩; have HI494 := Aside0.mk (hi); replace HB := Aside0.mk (hb); (try clear hb); (try clear hb2); (try clear hi)) | ((refine gd_ 8 ?_); refine Kd.R_lit (Kd.int .i64) _ 2 ?hg (N := 8) ?hd (xs := ([2, 3, 5, 7, 2, 4] : List Int)) (inner := [.int .i64 2, .int .i64 3, .int .i64 5, .int .i64 7, .int .i64 2, .int .i64 4]) (ok := fun _ => True) (okp := fun _ => True) ?hr ?hp (fun _ hk => hk) trivial (Below.refl _ _) (Nat.le_refl _) (by simp) ?_; (case hd => rfl); (case hg => rfl); (case hr => first | (go_simp; done) | (go_simp; rfl)); (case hp => exact (Reps.one (show Kd.M (Kd.int .i64) _ _ _ 2 [.int .i64 2] from rfl) (Reps.one (show Kd.M (Kd.int .i64) _ _ _ 3 [.int .i64 3] from rfl) (Reps.one (show Kd.M (Kd.int .i64) _ _ _ 5 [.int .i64 5] from rfl) (Reps.one (show Kd.M (Kd.int .i64) _ _ _ 7 [.int .i64 7] from rfl) (Reps.one (show Kd.M (Kd.int .i64) _ _ _ 2 [.int .i64 2] from rfl) (Reps.one (show Kd.M (Kd.int .i64) _ _ _ 4 [.int .i64 4] from rfl) (Reps.none _ _)))))))); intro v496 w8 ho9 hb hg_ hnew_; clear hg_ hnew_; (first | rw [← Ny495.out] at ho9 | (simp only [Int.reduceToNat] at ho9; rw [← Ny495.out] at ho9)); have HO497 := Aside0.mk (Kd.R_lower ho9 (below_size (by repeat (first | (with_reducible first | exact HB.out | apply below_alloc | apply pw_below_drewN | apply below_drew1 | refine below_set ?_ (IsS164.ge HI494.out)) | exact HB.out)))); replace HB := Aside0.mk (below_step (by repeat (first | (with_reducible first | exact HB.out | apply below_alloc | apply pw_below_drewN | apply below_drew1 | refine below_set ?_ (IsS164.ge HI494.out)) | exact HB.out)) hb); replace HI494 := Aside0.mk (IsS164.below (by repeat (first | (with_reducible first | exact HI494.out | apply IsS164.alloc | apply IsS164.drewN | apply IsS164.drew | apply IsS164.set_1 | apply IsS164.set_2) | exact HI494.out)) hb); clear hb ho9; obtain ⟨Ao10, co10, eo10⟩ := Kd.R_slice HO497.out; subst eo10) | ((refine gc_ 104 ?_); refine ge_ 9 Try.func104 #[.pointer (some ⟨g494, 0, none⟩), .slice Ao10 y495.length co10] ?_; (with_reducible refine (spec_l01Pick.calls g494 t491 t492 t493 _ _ y495 t498 t499 t500 w _ ?side1 ?side2 ?side3 ?side4 ?side5 A3.out).mono ?_); (case side1 => repeat (first | (with_reducible first | exact HI494.out | apply IsS164.alloc | apply IsS164.drewN | apply IsS164.drew | apply IsS164.set_1 | apply IsS164.set_2) | exact HI494.out)); (case side2 => repeat (first | (with_reducible first | exact HB.out | apply below_alloc | apply pw_below_drewN | apply below_drew1 | refine below_set ?_ (IsS164.ge HI494.out)) | exact HB.out)); (case side3 => exact ca_ (Kd.R_reads' HO497.out).2.2); (case side4 => exact (Kd.R_reads' HO497.out).2.1); (case side5 => exact far_slice (IsS164.own_ne HI494.out HO497.out (by decide))); rintro e w11 ⟨rfl, hi, hb, hk⟩; refine ⟨_, rfl, ?_⟩; replace HO497 := Aside0.mk (Kd.R_mono (Kd.R_keep (IsS164.apart (show IsS164 w _ g494 t491 t492 t493 from by repeat (first | (with_reducible first | exact HI494.out | apply IsS164.alloc | apply IsS164.drewN | apply IsS164.drew | apply IsS164.set_1 | apply IsS164.set_2) | exact HI494.out)) (ra_ HO497.out) (by decide)) hk (fun _ h => h.2)) (fun _ h => h.1)); replace HB := Aside0.mk (hb); replace HI494 := Aside0.mk (hi); (try clear hb); (try clear hk); (try clear hi)) | ((refine gc_ 108 ?_); refine ge_ 12 Try.func108 #[.pointer (some ⟨g494, 0, none⟩), .int .i64 20] ?_; (with_reducible refine (spec_l01Next.calls g494 t491 t499 t500 20 t501 t502 t503 w _ ?side1 ?side2 A4.out).mono ?_); (case side1 => repeat (first | (with_reducible first | exact HI494.out | apply IsS164.alloc | apply IsS164.drewN | apply IsS164.drew | apply IsS164.set_1 | apply IsS164.set_2) | exact HI494.out)); (case side2 => repeat (first | (with_reducible first | exact HB.out | apply below_alloc | apply pw_below_drewN | apply below_drew1 | refine below_set ?_ (IsS164.ge HI494.out)) | exact HB.out)); rintro e w12 ⟨rfl, hi, hb, hk⟩; refine ⟨_, rfl, ?_⟩; replace HO497 := Aside0.mk (Kd.R_mono (Kd.R_keep (IsS164.apart (show IsS164 w _ g494 t491 t499 t500 from by repeat (first | (with_reducible first | exact HI494.out | apply IsS164.alloc | apply IsS164.drewN | apply IsS164.drew | apply IsS164.set_1 | apply IsS164.set_2) | exact HI494.out)) (ra_ HO497.out) (by decide)) hk (fun _ h => h.2)) (fun _ h => h.1)); replace HB := Aside0.mk (hb); replace HI494 := Aside0.mk (hi); (try clear hb); (try clear hk); (try clear hi)) | ((refine gc_ 110 ?_); refine ge_ 14 Try.func110 #[.pointer (some ⟨g494, 0, none⟩), .int .i64 500] ?_; (with_reducible refine (spec_l01Near.calls g494 t491 t502 t503 500 t504 t505 t506 w _ ?side1 ?side2 A5.out).mono ?_); (case side1 => repeat (first | (with_reducible first | exact HI494.out | apply IsS164.alloc | apply IsS164.drewN | apply IsS164.drew | apply IsS164.set_1 | apply IsS164.set_2) | exact HI494.out)); (case side2 => repeat (first | (with_reducible first | exact HB.out | apply below_alloc | apply pw_below_drewN | apply below_drew1 | refine below_set ?_ (IsS164.ge HI494.out)) | exact HB.out)); rintro e w13 ⟨rfl, hi, hb, hk⟩; refine ⟨_, rfl, ?_⟩; replace HO497 := Aside0.mk (Kd.R_mono (Kd.R_keep (IsS164.apart (show IsS164 w _ g494 t491 t502 t503 from by repeat (first | (with_reducible first | exact HI494.out | apply IsS164.alloc | apply IsS164.drewN | apply IsS164.drew | apply IsS164.set_1 | apply IsS164.set_2) | exact HI494.out)) (ra_ HO497.out) (by decide)) hk (fun _ h => h.2)) (fun _ h => h.1)); replace HB := Aside0.mk (hb); replace HI494 := Aside0.mk (hi); (try clear hb); (try clear hk); (try clear hi)) | ((refine gd_ 15 ?_); refine Kd.R_lit (Kd.int .i64) _ 2 ?hg (N := 15) ?hd (xs := ([t501, t504] : List Int)) (inner := [.int .i64 t501, .int .i64 t504]) (ok := fun _ => True) (okp := fun _ => True) ?hr ?hp (fun _ hk => hk) trivial (Below.refl _ _) (Nat.le_refl _) (by simp) ?_; (case hd => rfl); (case hg => rfl); (case hr => first | (go_simp; done) | (go_simp; rfl)); (case hp => exact (Reps.one (show Kd.M (Kd.int .i64) _ _ _ t501 [.int .i64 t501] from rfl) (Reps.one (show Kd.M (Kd.int .i64) _ _ _ t504 [.int .i64 t504] from rfl) (Reps.none _ _)))); intro v508 w14 ho15 hb hg_ hnew_; clear hg_ hnew_; (first | rw [← Ny507.out] at ho15 | (simp only [Int.reduceToNat] at ho15; rw [← Ny507.out] at ho15)); have HO509 := Aside0.mk (Kd.R_lower (Kd.R_new' ho15 (Kd.R_lt (ra_ HO497.out))) (below_size (by repeat (first | (with_reducible first | exact HB.out | apply below_alloc | apply pw_below_drewN | apply below_drew1 | refine below_set ?_ (IsS164.ge HI494.out)) | exact HB.out)))); replace HO497 := Aside0.mk (Kd.R_elder' (ra_ HO497.out) (Kd.R_base ho15) hb); replace HB := Aside0.mk (below_step (by repeat (first | (with_reducible first | exact HB.out | apply below_alloc | apply pw_below_drewN | apply below_drew1 | refine below_set ?_ (IsS164.ge HI494.out)) | exact HB.out)) hb); replace HI494 := Aside0.mk (IsS164.below (by repeat (first | (with_reducible first | exact HI494.out | apply IsS164.alloc | apply IsS164.drewN | apply IsS164.drew | apply IsS164.set_1 | apply IsS164.set_2) | exact HI494.out)) hb); clear hb ho15; obtain ⟨Ao16, co16, eo16⟩ := Kd.R_slice HO509.out; subst eo16) | ((refine gc_ 104 ?_); refine ge_ 16 Try.func104 #[.pointer (some ⟨g494, 0, none⟩), .slice Ao16 y507.length co16] ?_; (with_reducible refine (spec_l01Pick.calls g494 t491 t505 t506 _ _ y507 t510 t511 t512 w _ ?side1 ?side2 ?side3 ?side4 ?side5 A6.out).mono ?_); (case side1 => repeat (first | (with_reducible first | exact HI494.out | apply IsS164.alloc | apply IsS164.drewN | apply IsS164.drew | apply IsS164.set_1 | apply IsS164.set_2) | exact HI494.out)); (case side2 => repeat (first | (with_reducible first | exact HB.out | apply below_alloc | apply pw_below_drewN | apply below_drew1 | refine below_set ?_ (IsS164.ge HI494.out)) | exact HB.out)); (case side3 => exact ca_ (Kd.R_reads' HO509.out).2.2); (case side4 => exact (Kd.R_reads' HO509.out).2.1); (case side5 => exact far_slice (IsS164.own_ne HI494.out HO509.out (by decide))); rintro e w17 ⟨rfl, hi, hb, hk⟩; refine ⟨_, rfl, ?_⟩; replace HO497 := Aside0.mk (Kd.R_mono (Kd.R_keep (IsS164.apart (show IsS164 w _ g494 t491 t505 t506 from by repeat (first | (with_reducible first | exact HI494.out | apply IsS164.alloc | apply IsS164.drewN | apply IsS164.drew | apply IsS164.set_1 | apply IsS164.set_2) | exact HI494.out)) (ra_ HO497.out) (by decide)) hk (fun _ h => h.2)) (fun _ h => h.1)); replace HO509 := Aside0.mk (Kd.R_mono (Kd.R_keep (IsS164.apart (show IsS164 w _ g494 t491 t505 t506 from by repeat (first | (with_reducible first | exact HI494.out | apply IsS164.alloc | apply IsS164.drewN | apply IsS164.drew | apply IsS164.set_1 | apply IsS164.set_2) | exact HI494.out)) (ra_ HO509.out) (by decide)) hk (fun _ h => h.2)) (fun _ h => h.1)); replace HB := Aside0.mk (hb); replace HI494 := Aside0.mk (hi); (try clear hb); (try clear hk); (try clear hi)))
 go_ret2
 exact ⟨es_, by repeat (first | (with_reducible first | exact HB.out | apply below_alloc | apply pw_below_drewN | apply below_drew1 | refine below_set ?_ (IsS164.ge HI494.out)) | exact HB.out)⟩
/-! ### impl_childPlaces: function 120 -/
mutual
def impl_childPlaces.j0 : Nat → Int → Int → Int → Option (List Int)
 | 0, _, _, _ => none
 | k + 1, x0, x1, x5 => impl_childPlaces.l0 k x0 x1 (([] : List Int)) x5 0
def impl_childPlaces.l0 : Nat → Int → Int → List Int → Int → Int → Option (List Int)
 | 0, _, _, _, _, _ => none
 | k + 1, x0, x1, x6, x14, x15 => if x15 < x14 then ((impl_firstChild.f x0 x1).bind fun t516 => (if x6.length < 17592186044416 then (impl_childPlaces.l0 k x0 x1 (x6 ++ [wrap64 (t516 + x15)]) x14 (wrap64 (x15 + 1))) else (none))) else (some x6)
end
def impl_childPlaces.f (k : Nat) (a0 a1 : Int) : Option (List Int) := if a1 = 0 then (impl_childPlaces.j0 k a0 a1 (wrap64 (a0 + 1))) else (impl_childPlaces.j0 k a0 a1 a0)
theorem impl_childPlaces.calls (k : Nat) (a0 a1 : Int) (r : List Int) (w : World) (h : impl_childPlaces.f k a0 a1 = some r) :
  Calls Try.prog 120 #[.int .i64 a0, .int .i64 a1] w fun e w' => ∃ v0_ : Value, e = .returned (v0_) ∧ Kd.R (Kd.int .i64) 2 w' w.heap.size (fun _ => True) v0_ r ∧ Below w.heap.size w w' := by
 have HB := Aside0.mk (Below.refl w.heap.size w)
 unfold impl_childPlaces.f at h
 have H := h
 clear h
 have HC3 := Aside0.mk H
 clear H
 go_enter Try.func120, Try.ntmps120
 go_upto_if 10 with (fail)
 go_cut [5] (fun v5 wc => ∃ (kq : Nat) (x5_2 : Int), v5 = .int .i64 x5_2 ∧ Aside0 (impl_childPlaces.j0 kq a0 a1 x5_2 = some r) ∧ Aside0 (kq ≤ k) ∧ Aside0 (Below w.heap.size w wc))
 case first =>
  have H := HC3.out
  clear HC3
  replace H := ie_ H
  rcases H with ⟨c4b0, c4b1, H⟩ | ⟨c4, c4b0, c4b1, H⟩
  ·(first | rw [c4b0] | (simp only [i64_w, i32_w]; rw [c4b0]) | skip)
   have H' := Aside0.mk H
   clear H
   go_wp2
   go_meet
   case rel => exact ⟨_, (wrap64 (a0 + 1)), en_, H', ⟨by first | omega | exact Nat.le_refl _⟩, bw_ HB⟩
  (first | rw [c4b0] | (simp only [i64_w, i32_w]; rw [c4b0]) | skip)
  have H' := Aside0.mk H
  clear H
  go_wp2
  go_meet
  case rel => exact ⟨_, (a0), en_, H', ⟨by first | omega | exact Nat.le_refl _⟩, bw_ HB⟩
 clear HC3
 try clear c4
 try clear c4b0
 try clear c4b1
 obtain ⟨kq, x5_2, rfl, HA, HJ2, HB⟩ := hcut
 cases kq with
 | zero => exact absurd HA.out (by simp [impl_childPlaces.j0])
 | succ kj2 =>
  have H := HA.out
  clear HA
  simp only [impl_childPlaces.j0] at H
  obtain ⟨y513, hy513⟩ : ∃ y_ : List Int, y_ = (([] : List Int)) := ⟨_, rfl⟩
  replace H : (impl_childPlaces.l0 kj2 a0 a1 y513 x5_2 0) = some r := by first | (rw [hy513]; with_reducible exact H) | (have H2_ := (Option.bind_some _ _).symm.trans H; rw [hy513]; with_reducible exact H2_) | (have H2_ := (Option.bind_some _ _).symm.trans H; with_reducible exact H2_) | with_reducible exact H | (rw [hy513]; exact H) | exact H
  have Ny513 := Aside0.mk hy513
  clear hy513
  have H' := Aside0.mk H
  clear H
  go_wp2_with (first | ((refine gd_ 13 ?_); refine Kd.R_lit (Kd.int .i64) _ 2 ?hg (N := 13) ?hd (xs := ([] : List Int)) (inner := []) (ok := fun _ => True) (okp := fun _ => True) ?hr ?hp (fun _ hk => hk) trivial (Below.refl _ _) (Nat.le_refl _) (by simp) ?_; (case hd => rfl); (case hg => rfl); (case hr => first | (go_simp; done) | (go_simp; rfl)); (case hp => exact (Reps.none _ _)); intro v514 w5 ho6 hb hg_ hnew_; clear hg_ hnew_; (first | rw [← Ny513.out] at ho6 | (simp only [Int.reduceToNat] at ho6; rw [← Ny513.out] at ho6)); have HO515 := Aside0.mk (Kd.R_lower ho6 (below_size (bw_ HB).out)); replace HB := bt_ HB hb; clear hb ho6))
  go_loopg [6, 15] kj2 (fun kq v6 v15 w' => ∃ (x6_2 : List Int) (x15_2 : Int), v15 = .int .i64 x15_2 ∧ Aside0 (impl_childPlaces.l0 kq a0 a1 x6_2 x5_2 x15_2 = some r) ∧ Aside0 (kq ≤ kj2) ∧ Aside0 (Kd.R (Kd.int .i64) 2 w' w.heap.size (fun _ => True) v6 x6_2) ∧ Aside0 (Below w.heap.size w w'))
  case atStart => exact ⟨(y513), (0), en_, H', ⟨Nat.le_refl _⟩, ⟨by (with_reducible repeat (first | apply Kd.R_alloc | apply Kd.R_drewN | apply Kd.R_drew)); exact HO515.out⟩, bw_ HB⟩
  clear H'
  try clear c4
  try clear c4b0
  try clear c4b1
  obtain ⟨x6_2, x15_2, rfl, HA, HK2, HO_6, HB⟩ := hrel
  cases gk with
  | zero => exact absurd HA.out (by simp [impl_childPlaces.l0])
  | succ k2 =>
   have H := HA.out
   clear HA
   simp only [impl_childPlaces.l0] at H
   replace H := il_ H
   rcases H with ⟨c7b0, H⟩ | ⟨c7b0, H⟩
   ·replace H := oc_ H
    obtain ⟨t516, A8, H⟩ := H
    by_cases c9 : x6_2.length < 17592186044416
    ·rw [if_pos c9] at H
     have LMc9 := Aside0.mk c9
     clear c9
     obtain ⟨y517, hy517⟩ : ∃ y_ : List Int, y_ = (x6_2 ++ [wrap64 (t516 + x15_2)]) := ⟨_, rfl⟩
     replace H : (impl_childPlaces.l0 k2 a0 a1 y517 x5_2 (wrap64 (x15_2 + 1))) = some r := by first | (rw [hy517]; with_reducible exact H) | (have H2_ := (Option.bind_some _ _).symm.trans H; rw [hy517]; with_reducible exact H2_) | (have H2_ := (Option.bind_some _ _).symm.trans H; with_reducible exact H2_) | with_reducible exact H | (rw [hy517]; exact H) | exact H
     have Ny517 := Aside0.mk hy517
     clear hy517
     have H' := Aside0.mk H
     clear H
     go_wp2_with (first | ((refine gc_ 117 ?_); refine ge_ 21 Try.func117 #[.int .i64 a0, .int .i64 a1] ?_; (with_reducible refine (impl_firstChild.calls a0 a1 t516 _ A8.out).mono ?_); rintro e w' ⟨rfl, ⟨nd, rfl⟩⟩; refine ⟨_, rfl, ?_⟩) | ((with_reducible refine gate_builtin (b := .append) (xs := #[.tmp 18, .tmp 24]) rfl ?_); at_builtin; refine Kd.R_append (Kd.int .i64) (w0 := w) w.heap.size rfl (.tmp 18) (.tmp 24) 41 2 (.int .i64 0) 8 rfl Try.underlying41 info2 rfl (by decide) (by omega) u6 x6_2 (wrap64 (t516 + x15_2)) [.int .i64 (wrap64 (t516 + x15_2))] (fun _ => True) (fun _ => False) rfl rfl ?aP (fun _ hk => hk.elim) ?aF ?aO ?aB ?aS ?aL ?_; (case aP => exact rfl); (case aB => exact (bw_ HB).out); (case aF => exact (fun _ _ => trivial)); (case aO => exact (ra_ HO_6.out)); (case aS => exact (below_size (bw_ HB).out)); (case aL => have := LMc9.out; omega); intro v518 w10 ho hb hg hat; rw [← Ny517.out] at ho; have n0_ := Aside0.mk (hb); have n1_ := Aside0.mk (ho); clear HB; clear HO_6; have HB := n0_; have HO519 := n1_; clear n0_ n1_; clear ho hb hg hat))
     go_roundg k2
     case measure => have := HJ2.out; have := HK2.out; omega
     case rel => exact ⟨(y517), (wrap64 (x15_2 + 1)), en_, H', ⟨by have := HJ2.out; have := HK2.out; omega⟩, ⟨by (with_reducible repeat (first | apply Kd.R_alloc | apply Kd.R_drewN | apply Kd.R_drew)); exact HO519.out⟩, bw_ HB⟩
    rw [if_neg c9] at H
    exact absurd H (by simp)
   obtain rfl := si_ H
   go_wp2
   go_ret
   exact ⟨_, es_, by (with_reducible repeat (first | apply Kd.R_alloc | apply Kd.R_drewN | apply Kd.R_drew)); exact HO_6.out, (bw_ HB).out⟩
/-! ### impl_ChildPlaces: function 48 -/
def impl_ChildPlaces.f (k : Nat) (a0 a1 : Int) : Option (List Int × Int) := (impl_isPrime.f a0).bind fun t520 => (if t520 = true then (if a1 < 0 then (some (([] : List Int), 2)) else (if a1 > 500 then (some (([] : List Int), 2)) else ((impl_childPlaces.f k a0 a1).bind fun t521 => (some (t521, 0))))) else (some (([] : List Int), 1)))
theorem impl_ChildPlaces.calls (k : Nat) (a0 a1 : Int) (r1 : List Int) (r2 : Int) (w : World) (h : impl_ChildPlaces.f k a0 a1 = some (r1, r2)) :
  Calls Try.prog 48 #[.int .i64 a0, .int .i64 a1] w fun e w' => ∃ v0_ : Value, e = .returned (.tuple #[v0_, .int .i64 r2]) ∧ Kd.R (Kd.int .i64) 2 w' w.heap.size (fun _ => True) v0_ r1 ∧ Below w.heap.size w w' := by
 have HB := Aside0.mk (Below.refl w.heap.size w)
 unfold impl_ChildPlaces.f at h
 have H := h
 clear h
 replace H := oc_ H
 obtain ⟨t520, A3, H⟩ := H
 replace H := ib_ H
 rcases H with ⟨rfl, H⟩ | ⟨rfl, H⟩
 ·replace H := il_ H
  rcases H with ⟨c5b0, H⟩ | ⟨c5b0, H⟩
  ·simp only [Option.some.injEq, Prod.mk.injEq] at H
   obtain ⟨rfl, rfl⟩ := H
   go_enter Try.func48, Try.ntmps48
   go_wp2_with (first | ((refine gc_ 118 ?_); refine ge_ 8 Try.func118 #[.int .i64 a0] ?_; (with_reducible refine (impl_isPrime.calls a0 true _ A3.out).mono ?_); rintro e w' ⟨rfl, ⟨nd, rfl⟩⟩; refine ⟨_, rfl, ?_⟩))
   go_ret2
   exact ⟨_, es_, by first | exact Kd.R_nil _ _ _ _ _ | exact Kd.N_nil _ _ _ _ _ | exact Kd.V_nil _ _ _ _ _ | exact Kd.Q_nil _ _ _ _ _ | exact Kd.S_nil _ _ _ _ _, (bw_ HB).out⟩
  replace H := ig_ H
  rcases H with ⟨c6b0, H⟩ | ⟨c6b0, H⟩
  ·simp only [Option.some.injEq, Prod.mk.injEq] at H
   obtain ⟨rfl, rfl⟩ := H
   go_enter Try.func48, Try.ntmps48
   go_wp2_with (first | ((refine gc_ 118 ?_); refine ge_ 8 Try.func118 #[.int .i64 a0] ?_; (with_reducible refine (impl_isPrime.calls a0 true _ A3.out).mono ?_); rintro e w' ⟨rfl, ⟨nd, rfl⟩⟩; refine ⟨_, rfl, ?_⟩))
   go_ret2
   exact ⟨_, es_, by first | exact Kd.R_nil _ _ _ _ _ | exact Kd.N_nil _ _ _ _ _ | exact Kd.V_nil _ _ _ _ _ | exact Kd.Q_nil _ _ _ _ _ | exact Kd.S_nil _ _ _ _ _, (bw_ HB).out⟩
  replace H := oc_ H
  obtain ⟨t521, A7, H⟩ := H
  simp only [Option.some.injEq, Prod.mk.injEq] at H
  obtain ⟨rfl, rfl⟩ := H
  go_enter Try.func48, Try.ntmps48
  go_wp2_with (first | ((refine gc_ 118 ?_); refine ge_ 8 Try.func118 #[.int .i64 a0] ?_; (with_reducible refine (impl_isPrime.calls a0 true _ A3.out).mono ?_); rintro e w' ⟨rfl, ⟨nd, rfl⟩⟩; refine ⟨_, rfl, ?_⟩) | ((refine gc_ 120 ?_); refine ge_ 19 Try.func120 #[.int .i64 a0, .int .i64 a1] ?_; (with_reducible refine (impl_childPlaces.calls k a0 a1 t521 _ A7.out).mono ?_); rintro e w8 ⟨v522, rfl, ho0, hb⟩; refine ⟨_, rfl, ?_⟩; have HO523 := Aside0.mk (Kd.R_lower ho0 (below_size (bw_ HB).out)); replace HB := bt_ HB hb; (try clear hb); (try clear ho0)))
  go_ret2
  exact ⟨_, es_, by (with_reducible repeat (first | apply Kd.R_alloc | apply Kd.R_drewN | apply Kd.R_drew)); exact HO523.out, (bw_ HB).out⟩
 simp only [Option.some.injEq, Prod.mk.injEq] at H
 obtain ⟨rfl, rfl⟩ := H
 go_enter Try.func48, Try.ntmps48
 go_wp2_with (first | ((refine gc_ 118 ?_); refine ge_ 8 Try.func118 #[.int .i64 a0] ?_; (with_reducible refine (impl_isPrime.calls a0 false _ A3.out).mono ?_); rintro e w' ⟨rfl, ⟨nd, rfl⟩⟩; refine ⟨_, rfl, ?_⟩))
 go_ret2
 exact ⟨_, es_, by first | exact Kd.R_nil _ _ _ _ _ | exact Kd.N_nil _ _ _ _ _ | exact Kd.V_nil _ _ _ _ _ | exact Kd.Q_nil _ _ _ _ _ | exact Kd.S_nil _ _ _ _ _, (bw_ HB).out⟩
/-! ### spec_ChildPlaces: function 49 -/
def spec_ChildPlaces.l0 : Nat → List Int → Int → Int → Int → Option (List Int × Int)
 | 0, _, _, _, _ => none
 | k + 1, x6, x7, x8, x9 => if x9 < x8 then (if x6.length < 17592186044416 then (spec_ChildPlaces.l0 k (x6 ++ [wrap64 (x7 + x9)]) x7 x8 (wrap64 (x9 + 1))) else (none)) else (some (x6, 0))
def spec_ChildPlaces.f (k : Nat) (a0 a1 : Int) : Option (List Int × Int) := (spec_l01Prime.f a0).bind fun t524 => (if t524 = true then ((spec_l01In.f a1 0 500).bind fun t525 => (if t525 = true then ((spec_l07Child.f a0 a1).bind fun bt529 => (spec_ChildPlaces.l0 k (([] : List Int)) bt529.1 bt529.2 0)) else (some (([] : List Int), 2)))) else (some (([] : List Int), 1)))
theorem spec_ChildPlaces.calls (k : Nat) (a0 a1 : Int) (r1 : List Int) (r2 : Int) (w : World) (h : spec_ChildPlaces.f k a0 a1 = some (r1, r2)) :
  Calls Try.prog 49 #[.int .i64 a0, .int .i64 a1] w fun e w' => ∃ v0_ : Value, e = .returned (.tuple #[v0_, .int .i64 r2]) ∧ Kd.R (Kd.int .i64) 2 w' w.heap.size (fun _ => True) v0_ r1 ∧ Below w.heap.size w w' := by
 have HB := Aside0.mk (Below.refl w.heap.size w)
 unfold spec_ChildPlaces.f at h
 have H := h
 clear h
 replace H := oc_ H
 obtain ⟨t524, A3, H⟩ := H
 replace H := ib_ H
 rcases H with ⟨rfl, H⟩ | ⟨rfl, H⟩
 ·replace H := oc_ H
  obtain ⟨t525, A5, H⟩ := H
  replace H := ib_ H
  rcases H with ⟨rfl, H⟩ | ⟨rfl, H⟩
  ·obtain ⟨y526, hy526⟩ : ∃ y_ : List Int, y_ = (([] : List Int)) := ⟨_, rfl⟩
   replace H : ((spec_l07Child.f a0 a1).bind fun bt529 => (spec_ChildPlaces.l0 k y526 bt529.1 bt529.2 0)) = some (r1, r2) := by first | (rw [hy526]; with_reducible exact H) | (have H2_ := (Option.bind_some _ _).symm.trans H; rw [hy526]; with_reducible exact H2_) | (have H2_ := (Option.bind_some _ _).symm.trans H; with_reducible exact H2_) | with_reducible exact H | (rw [hy526]; exact H) | exact H
   have Ny526 := Aside0.mk hy526
   clear hy526
   replace H := oc_ H
   obtain ⟨⟨t529, t530⟩, A7, H⟩ := H
   have H' := Aside0.mk H
   clear H
   go_enter Try.func49, Try.ntmps49
   go_wp2_with (first | ((refine gc_ 121 ?_); refine ge_ 12 Try.func121 #[.int .i64 a0] ?_; (with_reducible refine (spec_l01Prime.calls a0 true _ A3.out).mono ?_); rintro e w' ⟨rfl, ⟨nd, rfl⟩⟩; refine ⟨_, rfl, ?_⟩) | ((refine gc_ 109 ?_); refine ge_ 16 Try.func109 #[.int .i64 a1, .int .i64 0, .int .i64 500] ?_; (with_reducible refine (spec_l01In.calls a1 0 500 true _ A5.out).mono ?_); rintro e w' ⟨rfl, ⟨nd, rfl⟩⟩; refine ⟨_, rfl, ?_⟩) | ((refine gd_ 18 ?_); refine Kd.R_lit (Kd.int .i64) _ 2 ?hg (N := 18) ?hd (xs := ([] : List Int)) (inner := []) (ok := fun _ => True) (okp := fun _ => True) ?hr ?hp (fun _ hk => hk) trivial (Below.refl _ _) (Nat.le_refl _) (by simp) ?_; (case hd => rfl); (case hg => rfl); (case hr => first | (go_simp; done) | (go_simp; rfl)); (case hp => exact (Reps.none _ _)); intro v527 w8 ho9 hb hg_ hnew_; clear hg_ hnew_; (first | rw [← Ny526.out] at ho9 | (simp only [Int.reduceToNat] at ho9; rw [← Ny526.out] at ho9)); have HO528 := Aside0.mk (Kd.R_lower ho9 (below_size (bw_ HB).out)); replace HB := bt_ HB hb; clear hb ho9) | ((refine gc_ 122 ?_); refine ge_ 22 Try.func122 #[.int .i64 a0, .int .i64 a1] ?_; (with_reducible refine (spec_l07Child.calls a0 a1 t529 t530 _ A7.out).mono ?_); rintro e w' ⟨rfl, ⟨nd, rfl⟩⟩; refine ⟨_, rfl, ?_⟩))
   go_loopg [6, 9] k (fun kq v6 v9 w' => ∃ (x6_1 : List Int) (x9_1 : Int), v9 = .int .i64 x9_1 ∧ Aside0 (spec_ChildPlaces.l0 kq x6_1 t529 t530 x9_1 = some (r1, r2)) ∧ Aside0 (kq ≤ k) ∧ Aside0 (Kd.R (Kd.int .i64) 2 w' w.heap.size (fun _ => True) v6 x6_1) ∧ Aside0 (Below w.heap.size w w'))
   case atStart => exact ⟨(y526), (0), en_, H', ⟨Nat.le_refl _⟩, ⟨by (with_reducible repeat (first | apply Kd.R_alloc | apply Kd.R_drewN | apply Kd.R_drew)); exact HO528.out⟩, bw_ HB⟩
   clear H'
   obtain ⟨x6_1, x9_1, rfl, HA, HK1, HO_6, HB⟩ := hrel
   cases gk with
   | zero => exact absurd HA.out (by simp [spec_ChildPlaces.l0])
   | succ k1 =>
    have H := HA.out
    clear HA
    simp only [spec_ChildPlaces.l0] at H
    replace H := il_ H
    rcases H with ⟨c10b0, H⟩ | ⟨c10b0, H⟩
    ·by_cases c11 : x6_1.length < 17592186044416
     ·rw [if_pos c11] at H
      have LMc11 := Aside0.mk c11
      clear c11
      obtain ⟨y531, hy531⟩ : ∃ y_ : List Int, y_ = (x6_1 ++ [wrap64 (t529 + x9_1)]) := ⟨_, rfl⟩
      replace H : (spec_ChildPlaces.l0 k1 y531 t529 t530 (wrap64 (x9_1 + 1))) = some (r1, r2) := by first | (rw [hy531]; with_reducible exact H) | (have H2_ := (Option.bind_some _ _).symm.trans H; rw [hy531]; with_reducible exact H2_) | (have H2_ := (Option.bind_some _ _).symm.trans H; with_reducible exact H2_) | with_reducible exact H | (rw [hy531]; exact H) | exact H
      have Ny531 := Aside0.mk hy531
      clear hy531
      have H' := Aside0.mk H
      clear H
      go_wp2_with (first | ((with_reducible refine gate_builtin (b := .append) (xs := #[.tmp 30, .tmp 34]) rfl ?_); at_builtin; refine Kd.R_append (Kd.int .i64) (w0 := w) w.heap.size rfl (.tmp 30) (.tmp 34) 41 2 (.int .i64 0) 8 rfl Try.underlying41 info2 rfl (by decide) (by omega) u6 x6_1 (wrap64 (t529 + x9_1)) [.int .i64 (wrap64 (t529 + x9_1))] (fun _ => True) (fun _ => False) rfl rfl ?aP (fun _ hk => hk.elim) ?aF ?aO ?aB ?aS ?aL ?_; (case aP => exact rfl); (case aB => exact (bw_ HB).out); (case aF => exact (fun _ _ => trivial)); (case aO => exact (ra_ HO_6.out)); (case aS => exact (below_size (bw_ HB).out)); (case aL => have := LMc11.out; omega); intro v532 w12 ho hb hg hat; rw [← Ny531.out] at ho; have n0_ := Aside0.mk (hb); have n1_ := Aside0.mk (ho); clear HB; clear HO_6; have HB := n0_; have HO533 := n1_; clear n0_ n1_; clear ho hb hg hat))
      go_roundg k1
      case measure => have := HK1.out; omega
      case rel => exact ⟨(y531), (wrap64 (x9_1 + 1)), en_, H', ⟨by have := HK1.out; omega⟩, ⟨by (with_reducible repeat (first | apply Kd.R_alloc | apply Kd.R_drewN | apply Kd.R_drew)); exact HO533.out⟩, bw_ HB⟩
     rw [if_neg c11] at H
     exact absurd H (by simp)
    simp only [Option.some.injEq, Prod.mk.injEq] at H
    obtain ⟨rfl, rfl⟩ := H
    go_wp2
    go_ret2
    exact ⟨_, es_, by (with_reducible repeat (first | apply Kd.R_alloc | apply Kd.R_drewN | apply Kd.R_drew)); exact HO_6.out, (bw_ HB).out⟩
  simp only [Option.some.injEq, Prod.mk.injEq] at H
  obtain ⟨rfl, rfl⟩ := H
  go_enter Try.func49, Try.ntmps49
  go_wp2_with (first | ((refine gc_ 121 ?_); refine ge_ 12 Try.func121 #[.int .i64 a0] ?_; (with_reducible refine (spec_l01Prime.calls a0 true _ A3.out).mono ?_); rintro e w' ⟨rfl, ⟨nd, rfl⟩⟩; refine ⟨_, rfl, ?_⟩) | ((refine gc_ 109 ?_); refine ge_ 16 Try.func109 #[.int .i64 a1, .int .i64 0, .int .i64 500] ?_; (with_reducible refine (spec_l01In.calls a1 0 500 false _ A5.out).mono ?_); rintro e w' ⟨rfl, ⟨nd, rfl⟩⟩; refine ⟨_, rfl, ?_⟩))
  go_ret2
  exact ⟨_, es_, by first | exact Kd.R_nil _ _ _ _ _ | exact Kd.N_nil _ _ _ _ _ | exact Kd.V_nil _ _ _ _ _ | exact Kd.Q_nil _ _ _ _ _ | exact Kd.S_nil _ _ _ _ _, (bw_ HB).out⟩
 simp only [Option.some.injEq, Prod.mk.injEq] at H
 obtain ⟨rfl, rfl⟩ := H
 go_enter Try.func49, Try.ntmps49
 go_wp2_with (first | ((refine gc_ 121 ?_); refine ge_ 12 Try.func121 #[.int .i64 a0] ?_; (with_reducible refine (spec_l01Prime.calls a0 false _ A3.out).mono ?_); rintro e w' ⟨rfl, ⟨nd, rfl⟩⟩; refine ⟨_, rfl, ?_⟩))
 go_ret2
 exact ⟨_, es_, by first | exact Kd.R_nil _ _ _ _ _ | exact Kd.N_nil _ _ _ _ _ | exact Kd.V_nil _ _ _ _ _ | exact Kd.Q_nil _ _ _ _ _ | exact Kd.S_nil _ _ _ _ _, (bw_ HB).out⟩
end Go.Proofs.Ytgoeelhiffbjlaa.QP
