import Derived.Test.YtgoeelhiffbjlaaQPx9
import Derived.Test.YtgoeelhiffbjlaaQPx20
import Derived.Test.YtgoeelhiffbjlaaQPx44
import Derived.Test.YtgoeelhiffbjlaaQPx49
import Derived.Test.YtgoeelhiffbjlaaQPx37
import Derived.Test.YtgoeelhiffbjlaaQPx13
namespace Go.Proofs.Ytgoeelhiffbjlaa.QP
set_option maxHeartbeats 8000000
set_option maxRecDepth 100000
open Go.RowKit Go.Proofs.YtgoeelhiffbjlaaW.PrintWords Go.Proofs.YtgoeelhiffbjlaaW.PrintLast Go.Proofs.YtgoeelhiffbjlaaW.PrintMore
attribute [local go_sem] isSome_setCell max2_int min2_int max_two min_two max_three min_three max_four min_four
set_option linter.unusedVariables false
set_option linter.unusedSimpArgs false

/-! ### spec_BallOfPlace: function 44 -/
def spec_BallOfPlace.j0 : Nat → Int → Int → Bool → Int → Int → Int → Option (Int × Int × Int × Int)
 | 0, _, _, _, _, _, _ => none
 | k + 1, x0, x2, x27, x432000, x432001, x432002 => if x27 = true then (some (0, 0, 0, 2)) else ((spec_l07Ball.f k x0 x432000 x432001 x432002 x2).bind fun bt439 => (if bt439.2.2.2 = true then (some (bt439.1, bt439.2.1, bt439.2.2.1, 0)) else (some (0, 0, 0, 3))))
def spec_BallOfPlace.f (k : Nat) (a0 a1_0 a1_1 a1_2 a2 : Int) : Option (Int × Int × Int × Int) := (spec_l01Code.f k a0 (([(⟨a1_0, a1_1, a1_2⟩ : S25)] : List (S25)))).bind fun t436 => (if t436 = 0 then ((spec_l01In.f a2 0 500).bind fun t437 => (if t437 = true then ((spec_l07Depth.f k a0 a2).bind fun t438 => (spec_BallOfPlace.j0 k a0 a2 (decide (t438 > 4)) a1_0 a1_1 a1_2)) else (spec_BallOfPlace.j0 k a0 a2 true a1_0 a1_1 a1_2))) else (some (0, 0, 0, t436)))
theorem spec_BallOfPlace.calls (k : Nat) (a0 a1_0 a1_1 a1_2 a2 r1 r2 r3 r4 : Int) (w : World) (h : spec_BallOfPlace.f k a0 a1_0 a1_1 a1_2 a2 = some (r1, r2, r3, r4)) :
  Calls Try.prog 44 #[.int .i64 a0, .agg #[.int .i64 a1_0, .int .i64 a1_1, .int .i64 a1_2], .int .i64 a2] w fun e w' => e = .returned (.tuple #[.agg #[.int .i64 r1, .int .i64 r2, .int .i64 r3], .int .i64 r4]) ∧ Below w.heap.size w w' := by
 have hu25 := Try.underlying25
 have HB := Aside0.mk (Below.refl w.heap.size w)
 unfold spec_BallOfPlace.f at h
 have H := h
 clear h
 obtain ⟨y433, hy433⟩ : ∃ y_ : List (S25), y_ = (([(⟨a1_0, a1_1, a1_2⟩ : S25)] : List (S25))) := ⟨_, rfl⟩
 replace H : ((spec_l01Code.f k a0 y433).bind fun t436 => (if t436 = 0 then ((spec_l01In.f a2 0 500).bind fun t437 => (if t437 = true then ((spec_l07Depth.f k a0 a2).bind fun t438 => (spec_BallOfPlace.j0 k a0 a2 (decide (t438 > 4)) a1_0 a1_1 a1_2)) else (spec_BallOfPlace.j0 k a0 a2 true a1_0 a1_1 a1_2))) else (some (0, 0, 0, t436)))) = some (r1, r2, r3, r4) := by first | (rw [hy433]; with_reducible exact H) | (have H2_ := (Option.bind_some _ _).symm.trans H; rw [hy433]; with_reducible exact H2_) | (have H2_ := (Option.bind_some _ _).symm.trans H; with_reducible exact H2_) | with_reducible exact H | (rw [hy433]; exact H) | exact H
 have Ny433 := Aside0.mk hy433
 clear hy433
 replace H := oc_ H
 obtain ⟨t436, A4, H⟩ := H
 replace H := ie_ H
 rcases H with ⟨c5b0, c5b1, H⟩ | ⟨c5, c5b0, c5b1, H⟩
 ·have HC6 := Aside0.mk H
  clear H
  go_enter Try.func44, Try.ntmps44
  go_upto_region 4 with (first | ((refine gd_ 4 ?_); refine by_ 4 #[.int .i64 a1_0, .int .i64 a1_1, .int .i64 a1_2] 25 HB ?_; intro gb431 hg w7 BK431 hb GW431 HB_; replace HB := HB_; clear hb hg) | ((refine gd_ 6 ?_); refine by_ 6 #[.int .i64 0, .int .i64 0, .int .i64 0] 25 HB ?_; intro gb432 hg w8 BK432 hb GW432 HB_; have NB431_432 := bm_ BK431 hg; have NB432_431 := bn_ BK431 hg; replace BK431 := bb_ BK431 hb; replace HB := HB_; clear hb hg; have hnb9 := NB431_432.out; have hnc9 := NB432_431.out; obtain ⟨hcz10_0, hcz10_1, hcz10_2, hfz10_0, hfz10_1, hfz10_2⟩ := ch3_ BK431) | ((refine gd_ 13 ?_); refine Kd.R_lit k25 _ 25 ?hg (N := 13) ?hd (xs := ([(⟨a1_0, a1_1, a1_2⟩ : S25)] : List (S25))) (inner := [.int .i64 a1_0, .int .i64 a1_1, .int .i64 a1_2]) (ok := fun _ => True) (okp := fun _ => True) ?hr ?hp (fun _ hk => hk) trivial (Below.refl _ _) (Nat.le_refl _) (by simp) ?_; (case hd => rfl); (case hg => rfl); (case hr => first | (go_simp; done) | (go_simp; rfl)); (case hp => exact (Reps.c3 (show Kd.M k25 _ _ _ (⟨a1_0, a1_1, a1_2⟩ : S25) [.int .i64 a1_0, .int .i64 a1_1, .int .i64 a1_2] from (k25_mkM _ _ _ (⟨a1_0, a1_1, a1_2⟩ : S25) )) (Reps.none _ _))); intro v434 w11 ho12 hb hg_ hnew_; clear hg_ hnew_; (first | rw [← Ny433.out] at ho12 | (simp only [Int.reduceToNat] at ho12; rw [← Ny433.out] at ho12)); have HO435 := Aside0.mk (Kd.R_lower (Kd.R_newB (Kd.R_newB ho12 (g := gb431) (o := .cells #[.int .i64 a1_0, .int .i64 a1_1, .int .i64 a1_2] 25 (0, 0)) (bl_ BK431).out) (g := gb432) (o := .cells #[.int .i64 0, .int .i64 0, .int .i64 0] 25 (0, 0)) (bl_ BK432).out) (below_size (bw_ HB).out)); replace BK431 := bb_ BK431 hb; replace BK432 := bb_ BK432 hb; replace HB := bt_ HB hb; clear hb ho12; obtain ⟨Ao13, co13, eo13⟩ := Kd.R_slice HO435.out; subst eo13) | ((refine gc_ 88 ?_); refine ge_ 14 Try.func88 #[.int .i64 a0, .slice Ao13 y433.length co13] ?_; (with_reducible refine (spec_l01Code.calls k a0 _ _ y433 t436 _ ?side1 ?side2 A4.out).mono ?_); (case side1 => exact ca_ (Kd.R_reads' HO435.out).2.2); (case side2 => exact (Kd.R_reads' HO435.out).2.1); rintro e w14 ⟨rfl, hb⟩; refine ⟨_, rfl, ?_⟩; replace HO435 := rb_ HO435 hb; replace BK431 := bb_ BK431 hb; replace BK432 := bb_ BK432 hb; replace HB := bt_ HB hb; (try clear hb)))
  (try simp only [Act.put, lstS, lstZ, lstC])
  go_cut [27] (fun v27 wc => ∃ (kq : Nat) (x27_5 : Bool), v27 = .bool x27_5 ∧ Aside0 (spec_BallOfPlace.j0 kq a0 a2 x27_5 a1_0 a1_1 a1_2 = some (r1, r2, r3, r4)) ∧ Aside0 (kq ≤ k) ∧ Aside0 (wc.heap[gb431]? = some (.cells #[.int .i64 a1_0, .int .i64 a1_1, .int .i64 a1_2] 25 (0, 0))) ∧ Aside0 (wc.heap[gb432]? = some (.cells #[.int .i64 0, .int .i64 0, .int .i64 0] 25 (0, 0))) ∧ Aside0 (Below w.heap.size w wc))
  case first =>
   have H := HC6.out
   clear HC6
   replace H := oc_ H
   obtain ⟨t437, A15, H⟩ := H
   replace H := ib_ H
   rcases H with ⟨rfl, H⟩ | ⟨rfl, H⟩
   ·replace H := oc_ H
    obtain ⟨t438, A17, H⟩ := H
    have H' := Aside0.mk H
    clear H
    go_wp2_with (first | ((refine gc_ 109 ?_); refine ge_ 20 Try.func109 #[.int .i64 a2, .int .i64 0, .int .i64 500] ?_; (with_reducible refine (spec_l01In.calls a2 0 500 true _ A15.out).mono ?_); rintro e w' ⟨rfl, ⟨nd, rfl⟩⟩; refine ⟨_, rfl, ?_⟩) | (go_at_call 113; (with_reducible refine (spec_l07Depth.calls k a0 a2 t438 _ A17.out).mono ?_); rintro e w' ⟨rfl, ⟨nd, rfl⟩⟩))
    go_meet
    case rel => exact ⟨_, (decide (t438 > 4)), en_, H', ⟨by first | omega | exact Nat.le_refl _⟩, bl_ BK431, bl_ BK432, bw_ HB⟩
   have H' := Aside0.mk H
   clear H
   go_wp2_with (first | ((refine gc_ 109 ?_); refine ge_ 20 Try.func109 #[.int .i64 a2, .int .i64 0, .int .i64 500] ?_; (with_reducible refine (spec_l01In.calls a2 0 500 false _ A15.out).mono ?_); rintro e w' ⟨rfl, ⟨nd, rfl⟩⟩; refine ⟨_, rfl, ?_⟩))
   go_meet
   case rel => exact ⟨_, (true), en_, H', ⟨by first | omega | exact Nat.le_refl _⟩, bl_ BK431, bl_ BK432, bw_ HB⟩
  clear HC6
  try clear c3
  try clear c5
  try clear c5b0
  try clear c5b1
  try clear hcz10_0 hcz10_1 hcz10_2
  try clear hfz10_0 hfz10_1 hfz10_2
  obtain ⟨kq, x27_5, rfl, HA, HJ5, BK431, BK432, HB⟩ := hcut
  cases kq with
  | zero => exact absurd HA.out (by simp [spec_BallOfPlace.j0])
  | succ kj5 =>
   have H := HA.out
   clear HA
   simp only [spec_BallOfPlace.j0] at H
   replace H := ib_ H
   rcases H with ⟨rfl, H⟩ | ⟨rfl, H⟩
   ·simp only [Option.some.injEq, Prod.mk.injEq] at H
    obtain ⟨rfl, rfl, rfl, rfl⟩ := H
    have hnb19 := NB432_431.out
    have hnc19 := NB431_432.out
    obtain ⟨hcz20_0, hcz20_1, hcz20_2, hfz20_0, hfz20_1, hfz20_2⟩ := ch3_ BK432
    go_wp2
    refine bodyPost_ret (results_ct rfl _ _ gb432 25 #[.int .i64 0, .int .i64 0, .int .i64 0] (0, 0) _ rfl (bp_ BK432).out Try.underlying25 rfl (by kernel_rfl)) rfl ?_
    exact ⟨es_, (bw_ HB).out⟩
   replace H := oc_ H
   obtain ⟨⟨t439, t440, t441, t442⟩, A21, H⟩ := H
   replace H := ib_ H
   rcases H with ⟨rfl, H⟩ | ⟨rfl, H⟩
   ·simp only [Option.some.injEq, Prod.mk.injEq] at H
    obtain ⟨rfl, rfl, rfl, rfl⟩ := H
    have hnb23 := NB431_432.out
    have hnc23 := NB432_431.out
    obtain ⟨hcz24_0, hcz24_1, hcz24_2, hfz24_0, hfz24_1, hfz24_2⟩ := ch3_ BK431
    go_wp2_with (first | ((refine gc_ 114 ?_); refine ge_ 33 Try.func114 #[.int .i64 a0, .agg #[.int .i64 a1_0, .int .i64 a1_1, .int .i64 a1_2], .int .i64 a2] ?_; (with_reducible refine (spec_l07Ball.calls kj5 a0 a1_0 a1_1 a1_2 a2 t439 t440 t441 true _ A21.out).mono ?_); rintro e w25 ⟨rfl, hb⟩; refine ⟨_, rfl, ?_⟩; replace BK431 := bb_ BK431 hb; replace BK432 := bb_ BK432 hb; replace HB := bt_ HB hb; (try clear hb)) | ((refine gd_ 9 ?_); refine by_ 9 #[.int .i64 0, .int .i64 0, .int .i64 0] 25 HB ?_; intro gb443 hg w26 BK443 hb GW443 HB_; have NB431_443 := bm_ BK431 hg; have NB443_431 := bn_ BK431 hg; have NB432_443 := bm_ BK432 hg; have NB443_432 := bn_ BK432 hg; replace BK431 := bb_ BK431 hb; replace BK432 := bb_ BK432 hb; replace HB := HB_; clear hb hg; have hnb27 := NB443_431.out; have hnc27 := NB431_443.out; have hnb28 := NB443_432.out; have hnc28 := NB432_443.out; obtain ⟨hcz29_0, hcz29_1, hcz29_2, hfz29_0, hfz29_1, hfz29_2⟩ := ch3_ BK443; obtain ⟨hcz30_0, hcz30_1, hcz30_2, hfz30_0, hfz30_1, hfz30_2⟩ := ch3_ BK432))
    refine bodyPost_ret (results_ct rfl _ _ gb432 25 #[.int .i64 t439, .int .i64 t440, .int .i64 t441] (0, 0) _ rfl (bp_ BK432).out Try.underlying25 rfl (by kernel_rfl)) rfl ?_
    exact ⟨es_, (bw_ HB).out⟩
   simp only [Option.some.injEq, Prod.mk.injEq] at H
   obtain ⟨rfl, rfl, rfl, rfl⟩ := H
   have hnb31 := NB431_432.out
   have hnc31 := NB432_431.out
   obtain ⟨hcz32_0, hcz32_1, hcz32_2, hfz32_0, hfz32_1, hfz32_2⟩ := ch3_ BK431
   go_wp2_with (first | ((refine gc_ 114 ?_); refine ge_ 33 Try.func114 #[.int .i64 a0, .agg #[.int .i64 a1_0, .int .i64 a1_1, .int .i64 a1_2], .int .i64 a2] ?_; (with_reducible refine (spec_l07Ball.calls kj5 a0 a1_0 a1_1 a1_2 a2 t439 t440 t441 false _ A21.out).mono ?_); rintro e w33 ⟨rfl, hb⟩; refine ⟨_, rfl, ?_⟩; replace BK431 := bb_ BK431 hb; replace BK432 := bb_ BK432 hb; replace HB := bt_ HB hb; (try clear hb)) | ((refine gd_ 9 ?_); refine by_ 9 #[.int .i64 0, .int .i64 0, .int .i64 0] 25 HB ?_; intro gb443 hg w34 BK443 hb GW443 HB_; have NB431_443 := bm_ BK431 hg; have NB443_431 := bn_ BK431 hg; have NB432_443 := bm_ BK432 hg; have NB443_432 := bn_ BK432 hg; replace BK431 := bb_ BK431 hb; replace BK432 := bb_ BK432 hb; replace HB := HB_; clear hb hg; have hnb35 := NB443_431.out; have hnc35 := NB431_443.out; have hnb36 := NB443_432.out; have hnc36 := NB432_443.out; obtain ⟨hcz37_0, hcz37_1, hcz37_2, hfz37_0, hfz37_1, hfz37_2⟩ := ch3_ BK443; obtain ⟨hcz38_0, hcz38_1, hcz38_2, hfz38_0, hfz38_1, hfz38_2⟩ := ch3_ BK432))
   refine bodyPost_ret (results_ct rfl _ _ gb432 25 #[.int .i64 0, .int .i64 0, .int .i64 0] (0, 0) _ rfl (bp_ BK432).out Try.underlying25 rfl (by kernel_rfl)) rfl ?_
   exact ⟨es_, (bw_ HB).out⟩
 simp only [Option.some.injEq, Prod.mk.injEq] at H
 obtain ⟨rfl, rfl, rfl, rfl⟩ := H
 go_enter Try.func44, Try.ntmps44
 go_wp2_with (first | ((refine gd_ 4 ?_); refine by_ 4 #[.int .i64 a1_0, .int .i64 a1_1, .int .i64 a1_2] 25 HB ?_; intro gb431 hg w39 BK431 hb GW431 HB_; replace HB := HB_; clear hb hg) | ((refine gd_ 6 ?_); refine by_ 6 #[.int .i64 0, .int .i64 0, .int .i64 0] 25 HB ?_; intro gb432 hg w40 BK432 hb GW432 HB_; have NB431_432 := bm_ BK431 hg; have NB432_431 := bn_ BK431 hg; replace BK431 := bb_ BK431 hb; replace HB := HB_; clear hb hg; have hnb41 := NB431_432.out; have hnc41 := NB432_431.out; obtain ⟨hcz42_0, hcz42_1, hcz42_2, hfz42_0, hfz42_1, hfz42_2⟩ := ch3_ BK431) | ((refine gd_ 13 ?_); refine Kd.R_lit k25 _ 25 ?hg (N := 13) ?hd (xs := ([(⟨a1_0, a1_1, a1_2⟩ : S25)] : List (S25))) (inner := [.int .i64 a1_0, .int .i64 a1_1, .int .i64 a1_2]) (ok := fun _ => True) (okp := fun _ => True) ?hr ?hp (fun _ hk => hk) trivial (Below.refl _ _) (Nat.le_refl _) (by simp) ?_; (case hd => rfl); (case hg => rfl); (case hr => first | (go_simp; done) | (go_simp; rfl)); (case hp => exact (Reps.c3 (show Kd.M k25 _ _ _ (⟨a1_0, a1_1, a1_2⟩ : S25) [.int .i64 a1_0, .int .i64 a1_1, .int .i64 a1_2] from (k25_mkM _ _ _ (⟨a1_0, a1_1, a1_2⟩ : S25) )) (Reps.none _ _))); intro v434 w43 ho44 hb hg_ hnew_; clear hg_ hnew_; (first | rw [← Ny433.out] at ho44 | (simp only [Int.reduceToNat] at ho44; rw [← Ny433.out] at ho44)); have HO435 := Aside0.mk (Kd.R_lower (Kd.R_newB (Kd.R_newB ho44 (g := gb431) (o := .cells #[.int .i64 a1_0, .int .i64 a1_1, .int .i64 a1_2] 25 (0, 0)) (bl_ BK431).out) (g := gb432) (o := .cells #[.int .i64 0, .int .i64 0, .int .i64 0] 25 (0, 0)) (bl_ BK432).out) (below_size (bw_ HB).out)); replace BK431 := bb_ BK431 hb; replace BK432 := bb_ BK432 hb; replace HB := bt_ HB hb; clear hb ho44; obtain ⟨Ao45, co45, eo45⟩ := Kd.R_slice HO435.out; subst eo45) | ((refine gc_ 88 ?_); refine ge_ 14 Try.func88 #[.int .i64 a0, .slice Ao45 y433.length co45] ?_; (with_reducible refine (spec_l01Code.calls k a0 _ _ y433 t436 _ ?side1 ?side2 A4.out).mono ?_); (case side1 => exact ca_ (Kd.R_reads' HO435.out).2.2); (case side2 => exact (Kd.R_reads' HO435.out).2.1); rintro e w46 ⟨rfl, hb⟩; refine ⟨_, rfl, ?_⟩; replace HO435 := rb_ HO435 hb; replace BK431 := bb_ BK431 hb; replace BK432 := bb_ BK432 hb; replace HB := bt_ HB hb; (try clear hb); obtain ⟨hcz47_0, hcz47_1, hcz47_2, hfz47_0, hfz47_1, hfz47_2⟩ := ch3_ BK432))
 refine bodyPost_ret (results_ct rfl _ _ gb432 25 #[.int .i64 0, .int .i64 0, .int .i64 0] (0, 0) _ rfl (bp_ BK432).out Try.underlying25 rfl (by kernel_rfl)) rfl ?_
 exact ⟨es_, (bw_ HB).out⟩
/-! ### impl_above: function 168 -/
def impl_above.f (k : Nat) (a0 a1_0 a1_1 a1_2 a2 : Int) : Option (Int × Int × Int) := (impl_mark.f k a0 a1_0 a1_1 a1_2).bind fun t446 => ((impl_ofMark.f k a0 a2 t446).bind fun bt447 => (some (bt447.1, bt447.2.1, bt447.2.2.1)))
theorem impl_above.calls (k : Nat) (a0 a1_0 a1_1 a1_2 a2 r1 r2 r3 : Int) (w : World) (h : impl_above.f k a0 a1_0 a1_1 a1_2 a2 = some (r1, r2, r3)) :
  Calls Try.prog 168 #[.int .i64 a0, .agg #[.int .i64 a1_0, .int .i64 a1_1, .int .i64 a1_2], .int .i64 a2] w fun e w' => e = .returned (.agg #[.int .i64 r1, .int .i64 r2, .int .i64 r3]) ∧ Below w.heap.size w w' := by
 have hu25 := Try.underlying25
 have HB := Aside0.mk (Below.refl w.heap.size w)
 unfold impl_above.f at h
 have H := h
 clear h
 replace H := oc_ H
 obtain ⟨t446, A4, H⟩ := H
 replace H := oc_ H
 obtain ⟨⟨t447, t448, t449, t450⟩, A5, H⟩ := H
 simp only [Option.some.injEq, Prod.mk.injEq] at H
 obtain ⟨rfl, rfl, rfl⟩ := H
 go_enter Try.func168, Try.ntmps168
 go_wp2_with (first | ((refine gd_ 4 ?_); refine by_ 4 #[.int .i64 a1_0, .int .i64 a1_1, .int .i64 a1_2] 25 HB ?_; intro gb444 hg w6 BK444 hb GW444 HB_; replace HB := HB_; clear hb hg) | ((refine gd_ 6 ?_); refine by_ 6 #[.int .i64 0, .int .i64 0, .int .i64 0] 25 HB ?_; intro gb445 hg w7 BK445 hb GW445 HB_; have NB444_445 := bm_ BK444 hg; have NB445_444 := bn_ BK444 hg; replace BK444 := bb_ BK444 hb; replace HB := HB_; clear hb hg; have hnb8 := NB444_445.out; have hnc8 := NB445_444.out; obtain ⟨hcz9_0, hcz9_1, hcz9_2, hfz9_0, hfz9_1, hfz9_2⟩ := ch3_ BK444) | ((refine gc_ 163 ?_); refine ge_ 14 Try.func163 #[.int .i64 a0, .agg #[.int .i64 a1_0, .int .i64 a1_1, .int .i64 a1_2]] ?_; (with_reducible refine (impl_mark.calls k a0 a1_0 a1_1 a1_2 t446 _ A4.out).mono ?_); rintro e w10 ⟨rfl, hb⟩; refine ⟨_, rfl, ?_⟩; replace BK444 := bb_ BK444 hb; replace BK445 := bb_ BK445 hb; replace HB := bt_ HB hb; (try clear hb)) | ((refine gc_ 192 ?_); refine ge_ 15 Try.func192 #[.int .i64 a0, .int .i64 a2, .int .i64 t446] ?_; (with_reducible refine (impl_ofMark.calls k a0 a2 t446 t447 t448 t449 t450 _ A5.out).mono ?_); rintro e w11 ⟨rfl, hb⟩; refine ⟨_, rfl, ?_⟩; replace BK444 := bb_ BK444 hb; replace BK445 := bb_ BK445 hb; replace HB := bt_ HB hb; (try clear hb)) | ((refine gd_ 7 ?_); refine by_ 7 #[.int .i64 0, .int .i64 0, .int .i64 0] 25 HB ?_; intro gb451 hg w12 BK451 hb GW451 HB_; have NB444_451 := bm_ BK444 hg; have NB451_444 := bn_ BK444 hg; have NB445_451 := bm_ BK445 hg; have NB451_445 := bn_ BK445 hg; replace BK444 := bb_ BK444 hb; replace BK445 := bb_ BK445 hb; replace HB := HB_; clear hb hg; have hnb13 := NB451_444.out; have hnc13 := NB444_451.out; have hnb14 := NB451_445.out; have hnc14 := NB445_451.out; obtain ⟨hcz15_0, hcz15_1, hcz15_2, hfz15_0, hfz15_1, hfz15_2⟩ := ch3_ BK451; obtain ⟨hcz16_0, hcz16_1, hcz16_2, hfz16_0, hfz16_1, hfz16_2⟩ := ch3_ BK445))
 refine bodyPost_ret (results_cell_row rfl _ _ gb445 25 #[.int .i64 t447, .int .i64 t448, .int .i64 t449] (0, 0) _ rfl (bp_ BK445).out Try.underlying25 rfl (by kernel_rfl)) rfl ?_
 exact ⟨es_, (bw_ HB).out⟩
/-! ### impl_geodesic: function 115 -/
mutual
def impl_geodesic.l0 : Nat → Int → Int → List (S25) → Int → Int → Int → Int → Int → Int → Int → Option ((List (S25)))
 | 0, _, _, _, _, _, _, _, _, _, _ => none
 | k + 1, x0, x7, x8, x9, x453000, x453001, x453002, x454000, x454001, x454002 => if x9 ≥ x7 then ((impl_above.f k x0 x453000 x453001 x453002 x9).bind fun bt458 => (if x8.length < 5864062014805 then (impl_geodesic.l0 k x0 x7 (x8 ++ [(⟨bt458.1, bt458.2.1, bt458.2.2⟩ : S25)]) (wrap64 (x9 - 1)) x453000 x453001 x453002 x454000 x454001 x454002) else (none))) else (impl_geodesic.l1 k x0 x8 (wrap64 (x7 + 1)) x454000 x454001 x454002)
def impl_geodesic.l1 : Nat → Int → List (S25) → Int → Int → Int → Int → Option ((List (S25)))
 | 0, _, _, _, _, _, _ => none
 | k + 1, x0, x8, x10, x454000, x454001, x454002 => if x10 ≤ x454000 then ((impl_above.f k x0 x454000 x454001 x454002 x10).bind fun bt464 => (if x8.length < 5864062014805 then (impl_geodesic.l1 k x0 (x8 ++ [(⟨bt464.1, bt464.2.1, bt464.2.2⟩ : S25)]) (wrap64 (x10 + 1)) x454000 x454001 x454002) else (none))) else (some x8)
end
def impl_geodesic.f (k : Nat) (a0 a1_0 a1_1 a1_2 a2_0 a2_1 a2_2 : Int) : Option ((List (S25))) := (impl_joinLevel.f k a0 a1_0 a1_1 a1_2 a2_0 a2_1 a2_2).bind fun t454 => (impl_geodesic.l0 k a0 t454 (([] : List (S25))) a1_0 a1_0 a1_1 a1_2 a2_0 a2_1 a2_2)
theorem impl_geodesic.calls (k : Nat) (a0 a1_0 a1_1 a1_2 a2_0 a2_1 a2_2 : Int) (r : List (S25)) (w : World) (h : impl_geodesic.f k a0 a1_0 a1_1 a1_2 a2_0 a2_1 a2_2 = some r) :
  Calls Try.prog 115 #[.int .i64 a0, .agg #[.int .i64 a1_0, .int .i64 a1_1, .int .i64 a1_2], .agg #[.int .i64 a2_0, .int .i64 a2_1, .int .i64 a2_2]] w fun e w' => ∃ v0_ : Value, e = .returned (v0_) ∧ Kd.R k25 25 w' w.heap.size (fun _ => True) v0_ r ∧ Below w.heap.size w w' := by
 have hu25 := Try.underlying25
 have HB := Aside0.mk (Below.refl w.heap.size w)
 unfold impl_geodesic.f at h
 have H := h
 clear h
 replace H := oc_ H
 obtain ⟨t454, A4, H⟩ := H
 obtain ⟨y455, hy455⟩ : ∃ y_ : List (S25), y_ = (([] : List (S25))) := ⟨_, rfl⟩
 replace H : (impl_geodesic.l0 k a0 t454 y455 a1_0 a1_0 a1_1 a1_2 a2_0 a2_1 a2_2) = some r := by first | (rw [hy455]; with_reducible exact H) | (have H2_ := (Option.bind_some _ _).symm.trans H; rw [hy455]; with_reducible exact H2_) | (have H2_ := (Option.bind_some _ _).symm.trans H; with_reducible exact H2_) | with_reducible exact H | (rw [hy455]; exact H) | exact H
 have Ny455 := Aside0.mk hy455
 clear hy455
 have H' := Aside0.mk H
 clear H
 go_enter Try.func115, Try.ntmps115
 go_wp2_with (first | ((refine gd_ 4 ?_); refine by_ 4 #[.int .i64 a1_0, .int .i64 a1_1, .int .i64 a1_2] 25 HB ?_; intro gb452 hg w5 BK452 hb GW452 HB_; replace HB := HB_; clear hb hg) | ((refine gd_ 5 ?_); refine by_ 5 #[.int .i64 a2_0, .int .i64 a2_1, .int .i64 a2_2] 25 HB ?_; intro gb453 hg w6 BK453 hb GW453 HB_; have NB452_453 := bm_ BK452 hg; have NB453_452 := bn_ BK452 hg; replace BK452 := bb_ BK452 hb; replace HB := HB_; clear hb hg; have hnb7 := NB452_453.out; have hnc7 := NB453_452.out; obtain ⟨hcz8_0, hcz8_1, hcz8_2, hfz8_0, hfz8_1, hfz8_2⟩ := ch3_ BK452; obtain ⟨hcz9_0, hcz9_1, hcz9_2, hfz9_0, hfz9_1, hfz9_2⟩ := ch3_ BK453) | ((refine gc_ 159 ?_); refine ge_ 14 Try.func159 #[.int .i64 a0, .agg #[.int .i64 a1_0, .int .i64 a1_1, .int .i64 a1_2], .agg #[.int .i64 a2_0, .int .i64 a2_1, .int .i64 a2_2]] ?_; (with_reducible refine (impl_joinLevel.calls k a0 a1_0 a1_1 a1_2 a2_0 a2_1 a2_2 t454 _ A4.out).mono ?_); rintro e w10 ⟨rfl, hb⟩; refine ⟨_, rfl, ?_⟩; replace BK452 := bb_ BK452 hb; replace BK453 := bb_ BK453 hb; replace HB := bt_ HB hb; (try clear hb)) | ((refine gd_ 15 ?_); refine Kd.R_lit k25 _ 25 ?hg (N := 15) ?hd (xs := ([] : List (S25))) (inner := []) (ok := fun _ => True) (okp := fun _ => True) ?hr ?hp (fun _ hk => hk) trivial (Below.refl _ _) (Nat.le_refl _) (by simp) ?_; (case hd => rfl); (case hg => rfl); (case hr => first | (go_simp; done) | (go_simp; rfl)); (case hp => exact (Reps.none _ _)); intro v456 w11 ho12 hb hg_ hnew_; clear hg_ hnew_; (first | rw [← Ny455.out] at ho12 | (simp only [Int.reduceToNat] at ho12; rw [← Ny455.out] at ho12)); have HO457 := Aside0.mk (Kd.R_lower (Kd.R_newB (Kd.R_newB ho12 (g := gb452) (o := .cells #[.int .i64 a1_0, .int .i64 a1_1, .int .i64 a1_2] 25 (0, 0)) (bl_ BK452).out) (g := gb453) (o := .cells #[.int .i64 a2_0, .int .i64 a2_1, .int .i64 a2_2] 25 (0, 0)) (bl_ BK453).out) (below_size (bw_ HB).out)); replace BK452 := bb_ BK452 hb; replace BK453 := bb_ BK453 hb; replace HB := bt_ HB hb; clear hb ho12; obtain ⟨hcz13_0, hcz13_1, hcz13_2, hfz13_0, hfz13_1, hfz13_2⟩ := ch3_ BK452))
 go_loopg [8, 9] k (fun kq v8 v9 w' => ∃ (x8_1 : List (S25)) (x9_1 : Int), v9 = .int .i64 x9_1 ∧ Aside0 (impl_geodesic.l0 kq a0 t454 x8_1 x9_1 a1_0 a1_1 a1_2 a2_0 a2_1 a2_2 = some r) ∧ Aside0 (kq ≤ k) ∧ Aside0 (Kd.R k25 25 w' w.heap.size (fun k_ => k_ ≠ gb452 ∧ k_ ≠ gb453) v8 x8_1) ∧ Aside0 (w'.heap[gb452]? = some (.cells #[.int .i64 a1_0, .int .i64 a1_1, .int .i64 a1_2] 25 (0, 0))) ∧ Aside0 (w'.heap[gb453]? = some (.cells #[.int .i64 a2_0, .int .i64 a2_1, .int .i64 a2_2] 25 (0, 0))) ∧ Aside0 (Below w.heap.size w w'))
 case atStart => exact ⟨(y455), (a1_0), en_, H', ⟨Nat.le_refl _⟩, ⟨by (with_reducible repeat (first | apply Kd.R_alloc | apply Kd.R_drewN | apply Kd.R_drew)); exact Kd.R_mono HO457.out (fun _ hk => ⟨hk.1.2, hk.2⟩)⟩, bl_ BK452, bl_ BK453, bw_ HB⟩
 clear H'
 try clear hcz13_0 hcz13_1 hcz13_2
 try clear hcz8_0 hcz8_1 hcz8_2
 try clear hcz9_0 hcz9_1 hcz9_2
 try clear hfz13_0 hfz13_1 hfz13_2
 try clear hfz8_0 hfz8_1 hfz8_2
 try clear hfz9_0 hfz9_1 hfz9_2
 obtain ⟨x8_1, x9_1, rfl, HA, HK1, HO_8, BK452, BK453, HB⟩ := hrel
 cases gk with
 | zero => exact absurd HA.out (by simp [impl_geodesic.l0])
 | succ k1 =>
  have H := HA.out
  clear HA
  simp only [impl_geodesic.l0] at H
  replace H := in_ H
  rcases H with ⟨c14b0, H⟩ | ⟨c14b0, H⟩
  ·replace H := oc_ H
   obtain ⟨⟨t458, t459, t460⟩, A15, H⟩ := H
   by_cases c16 : x8_1.length < 5864062014805
   ·rw [if_pos c16] at H
    have LMc16 := Aside0.mk c16
    clear c16
    obtain ⟨y461, hy461⟩ : ∃ y_ : List (S25), y_ = (x8_1 ++ [(⟨t458, t459, t460⟩ : S25)]) := ⟨_, rfl⟩
    replace H : (impl_geodesic.l0 k1 a0 t454 y461 (wrap64 (x9_1 - 1)) a1_0 a1_1 a1_2 a2_0 a2_1 a2_2) = some r := by first | (rw [hy461]; with_reducible exact H) | (have H2_ := (Option.bind_some _ _).symm.trans H; rw [hy461]; with_reducible exact H2_) | (have H2_ := (Option.bind_some _ _).symm.trans H; with_reducible exact H2_) | with_reducible exact H | (rw [hy461]; exact H) | exact H
    have Ny461 := Aside0.mk hy461
    clear hy461
    have H' := Aside0.mk H
    clear H
    have hnb17 := NB452_453.out
    have hnc17 := NB453_452.out
    obtain ⟨hcz18_0, hcz18_1, hcz18_2, hfz18_0, hfz18_1, hfz18_2⟩ := ch3_ BK452
    go_wp2_with (first | ((refine gc_ 168 ?_); refine ge_ 27 Try.func168 #[.int .i64 a0, .agg #[.int .i64 a1_0, .int .i64 a1_1, .int .i64 a1_2], .int .i64 x9_1] ?_; (with_reducible refine (impl_above.calls k1 a0 a1_0 a1_1 a1_2 x9_1 t458 t459 t460 _ A15.out).mono ?_); rintro e w19 ⟨rfl, hb⟩; refine ⟨_, rfl, ?_⟩; replace HO_8 := rb_ HO_8 hb; replace BK452 := bb_ BK452 hb; replace BK453 := bb_ BK453 hb; replace HB := bt_ HB hb; (try clear hb)) | ((with_reducible refine gate_builtin (b := .append) (xs := #[.tmp 23, .tmp 28]) rfl ?_); at_builtin; refine Kd.R_append k25 (w0 := w) w.heap.size rfl (.tmp 23) (.tmp 28) 95 25 (.agg #[(.int .i64 0), (.int .i64 0), (.int .i64 0)]) 24 rfl Try.underlying95 info25 rfl (by decide) (by omega) u8 x8_1 (⟨t458, t459, t460⟩ : S25) [.int .i64 t458, .int .i64 t459, .int .i64 t460] (fun k_ => k_ ≠ gb452 ∧ k_ ≠ gb453) (fun _ => False) rfl rfl ?aP (fun _ hk => hk.elim) ?aF ?aO ?aB ?aS ?aL ?_; (case aP => exact k25_mkM _ _ _ (⟨t458, t459, t460⟩ : S25)); (case aB => exact (bw_ HB).out); (case aF => exact (fun k_ hk => ⟨Kd.freshB (g := gb452) (o := .cells #[.int .i64 a1_0, .int .i64 a1_1, .int .i64 a1_2] 25 (0, 0)) (bl_ BK452).out k_ hk, Kd.freshB (g := gb453) (o := .cells #[.int .i64 a2_0, .int .i64 a2_1, .int .i64 a2_2] 25 (0, 0)) (bl_ BK453).out k_ hk⟩)); (case aO => exact (ra_ HO_8.out)); (case aS => exact (below_size (bw_ HB).out)); (case aL => have := LMc16.out; omega); intro v462 w20 ho hb hg hat; rw [← Ny461.out] at ho; have n0_ := Aside0.mk (blk_grown (g := gb452) (o := .cells #[.int .i64 a1_0, .int .i64 a1_1, .int .i64 a1_2] 25 (0, 0)) (bl_ BK452).out hg (Kd.R_away HO_8.out (fun _ hk => hk.1))); have n1_ := Aside0.mk (blk_grown (g := gb453) (o := .cells #[.int .i64 a2_0, .int .i64 a2_1, .int .i64 a2_2] 25 (0, 0)) (bl_ BK453).out hg (Kd.R_away HO_8.out (fun _ hk => hk.2))); have n2_ := Aside0.mk (hb); have n3_ := Aside0.mk (ho); clear BK452; clear BK453; clear HB; clear HO_8; have BK452 := n0_; have BK453 := n1_; have HB := n2_; have HO463 := n3_; clear n0_ n1_ n2_ n3_; clear ho hb hg hat))
    go_roundg k1
    case measure => have := HK1.out; omega
    case rel => exact ⟨(y461), (wrap64 (x9_1 - 1)), en_, H', ⟨by have := HK1.out; omega⟩, ⟨by (with_reducible repeat (first | apply Kd.R_alloc | apply Kd.R_drewN | apply Kd.R_drew)); exact HO463.out⟩, bl_ BK452, bl_ BK453, bw_ HB⟩
   rw [if_neg c16] at H
   exact absurd H (by simp)
  have H' := Aside0.mk H
  clear H
  go_wp2
  go_loopg [8, 10] k1 (fun kq v8 v10 w' => ∃ (x8_2 : List (S25)) (x10_2 : Int), v10 = .int .i64 x10_2 ∧ Aside0 (impl_geodesic.l1 kq a0 x8_2 x10_2 a2_0 a2_1 a2_2 = some r) ∧ Aside0 (kq ≤ k1) ∧ Aside0 (Kd.R k25 25 w' w.heap.size (fun k_ => k_ ≠ gb452 ∧ k_ ≠ gb453) v8 x8_2) ∧ Aside0 (w'.heap[gb452]? = some (.cells #[.int .i64 a1_0, .int .i64 a1_1, .int .i64 a1_2] 25 (0, 0))) ∧ Aside0 (w'.heap[gb453]? = some (.cells #[.int .i64 a2_0, .int .i64 a2_1, .int .i64 a2_2] 25 (0, 0))) ∧ Aside0 (Below w.heap.size w w'))
  case atStart => exact ⟨(x8_1), (wrap64 (t454 + 1)), en_, H', ⟨Nat.le_refl _⟩, ⟨by (with_reducible repeat (first | apply Kd.R_alloc | apply Kd.R_drewN | apply Kd.R_drew)); exact HO_8.out⟩, bl_ BK452, bl_ BK453, bw_ HB⟩
  clear H'
  try clear c14b0
  try clear c16
  try clear hcz13_0 hcz13_1 hcz13_2
  try clear hcz18_0 hcz18_1 hcz18_2
  try clear hcz8_0 hcz8_1 hcz8_2
  try clear hcz9_0 hcz9_1 hcz9_2
  try clear hfz13_0 hfz13_1 hfz13_2
  try clear hfz18_0 hfz18_1 hfz18_2
  try clear hfz8_0 hfz8_1 hfz8_2
  try clear hfz9_0 hfz9_1 hfz9_2
  obtain ⟨x8_2, x10_2, rfl, HA, HK2, HO_8, BK452, BK453, HB⟩ := hrel
  cases gk with
  | zero => exact absurd HA.out (by simp [impl_geodesic.l1])
  | succ k2 =>
   have H := HA.out
   clear HA
   simp only [impl_geodesic.l1] at H
   replace H := im_ H
   rcases H with ⟨c21b0, H⟩ | ⟨c21b0, H⟩
   ·replace H := oc_ H
    obtain ⟨⟨t464, t465, t466⟩, A22, H⟩ := H
    by_cases c23 : x8_2.length < 5864062014805
    ·rw [if_pos c23] at H
     have LMc23 := Aside0.mk c23
     clear c23
     obtain ⟨y467, hy467⟩ : ∃ y_ : List (S25), y_ = (x8_2 ++ [(⟨t464, t465, t466⟩ : S25)]) := ⟨_, rfl⟩
     replace H : (impl_geodesic.l1 k2 a0 y467 (wrap64 (x10_2 + 1)) a2_0 a2_1 a2_2) = some r := by first | (rw [hy467]; with_reducible exact H) | (have H2_ := (Option.bind_some _ _).symm.trans H; rw [hy467]; with_reducible exact H2_) | (have H2_ := (Option.bind_some _ _).symm.trans H; with_reducible exact H2_) | with_reducible exact H | (rw [hy467]; exact H) | exact H
     have Ny467 := Aside0.mk hy467
     clear hy467
     have H' := Aside0.mk H
     clear H
     have hnb24 := NB453_452.out
     have hnc24 := NB452_453.out
     obtain ⟨hcz25_0, hcz25_1, hcz25_2, hfz25_0, hfz25_1, hfz25_2⟩ := ch3_ BK453
     go_wp2_with (first | ((refine gc_ 168 ?_); refine ge_ 42 Try.func168 #[.int .i64 a0, .agg #[.int .i64 a2_0, .int .i64 a2_1, .int .i64 a2_2], .int .i64 x10_2] ?_; (with_reducible refine (impl_above.calls k2 a0 a2_0 a2_1 a2_2 x10_2 t464 t465 t466 _ A22.out).mono ?_); rintro e w26 ⟨rfl, hb⟩; refine ⟨_, rfl, ?_⟩; replace HO_8 := rb_ HO_8 hb; replace BK452 := bb_ BK452 hb; replace BK453 := bb_ BK453 hb; replace HB := bt_ HB hb; (try clear hb)) | ((with_reducible refine gate_builtin (b := .append) (xs := #[.tmp 38, .tmp 43]) rfl ?_); at_builtin; refine Kd.R_append k25 (w0 := w) w.heap.size rfl (.tmp 38) (.tmp 43) 95 25 (.agg #[(.int .i64 0), (.int .i64 0), (.int .i64 0)]) 24 rfl Try.underlying95 info25 rfl (by decide) (by omega) u8 x8_2 (⟨t464, t465, t466⟩ : S25) [.int .i64 t464, .int .i64 t465, .int .i64 t466] (fun k_ => k_ ≠ gb452 ∧ k_ ≠ gb453) (fun _ => False) rfl rfl ?aP (fun _ hk => hk.elim) ?aF ?aO ?aB ?aS ?aL ?_; (case aP => exact k25_mkM _ _ _ (⟨t464, t465, t466⟩ : S25)); (case aB => exact (bw_ HB).out); (case aF => exact (fun k_ hk => ⟨Kd.freshB (g := gb452) (o := .cells #[.int .i64 a1_0, .int .i64 a1_1, .int .i64 a1_2] 25 (0, 0)) (bl_ BK452).out k_ hk, Kd.freshB (g := gb453) (o := .cells #[.int .i64 a2_0, .int .i64 a2_1, .int .i64 a2_2] 25 (0, 0)) (bl_ BK453).out k_ hk⟩)); (case aO => exact (ra_ HO_8.out)); (case aS => exact (below_size (bw_ HB).out)); (case aL => have := LMc23.out; omega); intro v468 w27 ho hb hg hat; rw [← Ny467.out] at ho; have n0_ := Aside0.mk (blk_grown (g := gb452) (o := .cells #[.int .i64 a1_0, .int .i64 a1_1, .int .i64 a1_2] 25 (0, 0)) (bl_ BK452).out hg (Kd.R_away HO_8.out (fun _ hk => hk.1))); have n1_ := Aside0.mk (blk_grown (g := gb453) (o := .cells #[.int .i64 a2_0, .int .i64 a2_1, .int .i64 a2_2] 25 (0, 0)) (bl_ BK453).out hg (Kd.R_away HO_8.out (fun _ hk => hk.2))); have n2_ := Aside0.mk (hb); have n3_ := Aside0.mk (ho); clear BK452; clear BK453; clear HB; clear HO_8; have BK452 := n0_; have BK453 := n1_; have HB := n2_; have HO469 := n3_; clear n0_ n1_ n2_ n3_; clear ho hb hg hat))
     go_roundg k2
     case measure => have := HK1.out; have := HK2.out; omega
     case rel => exact ⟨(y467), (wrap64 (x10_2 + 1)), en_, H', ⟨by have := HK1.out; have := HK2.out; omega⟩, ⟨by (with_reducible repeat (first | apply Kd.R_alloc | apply Kd.R_drewN | apply Kd.R_drew)); exact HO469.out⟩, bl_ BK452, bl_ BK453, bw_ HB⟩
    rw [if_neg c23] at H
    exact absurd H (by simp)
   obtain rfl := si_ H
   have hnb28 := NB453_452.out
   have hnc28 := NB452_453.out
   obtain ⟨hcz29_0, hcz29_1, hcz29_2, hfz29_0, hfz29_1, hfz29_2⟩ := ch3_ BK453
   go_wp2
   go_ret
   exact ⟨_, es_, by (with_reducible repeat (first | apply Kd.R_alloc | apply Kd.R_drewN | apply Kd.R_drew)); exact Kd.R_mono HO_8.out (fun _ hk => trivial), (bw_ HB).out⟩
end Go.Proofs.Ytgoeelhiffbjlaa.QP
