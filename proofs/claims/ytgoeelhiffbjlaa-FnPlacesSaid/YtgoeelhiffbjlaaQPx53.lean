import Derived.Test.YtgoeelhiffbjlaaQPx9
import Derived.Test.YtgoeelhiffbjlaaQPx13
import Derived.Test.YtgoeelhiffbjlaaQPx37
import Derived.Test.YtgoeelhiffbjlaaQPx52
namespace Go.Proofs.Ytgoeelhiffbjlaa.QP
open Go.RowKit Go.Proofs.YtgoeelhiffbjlaaW.PrintWords Go.Proofs.YtgoeelhiffbjlaaW.PrintLast Go.Proofs.YtgoeelhiffbjlaaW.PrintMore
attribute [local go_sem] isSome_setCell max2_int min2_int max_two min_two max_three min_three max_four min_four
set_option linter.unusedVariables false
set_option linter.unusedSimpArgs false

/-! ### impl_PlaceOfBall: function 45 -/
def impl_PlaceOfBall.l0 : Nat → Int → List (S25) → Int → Int → Option (Int × Int)
 | 0, _, _, _, _ => none
 | k + 1, x0, x8, x9, x10 => if x10 < (x8.length : Int) then (if 0 ≤ (wrap64 (x10 - 1)) then (if (wrap64 (x10 - 1)) < (x8.length : Int) then (if 0 ≤ x10 then ((impl_toward.f k x0 ((rd_T25 x8 (wrap64 (x10 - 1))).f0) ((rd_T25 x8 (wrap64 (x10 - 1))).f1) ((rd_T25 x8 (wrap64 (x10 - 1))).f2) ((rd_T25 x8 x10).f0) ((rd_T25 x8 x10).f1) ((rd_T25 x8 x10).f2)).bind fun t482 => (if x10 > 1 then (if 0 ≤ (wrap64 (x10 - 2)) then (if (wrap64 (x10 - 2)) < (x8.length : Int) then ((impl_toward.f k x0 ((rd_T25 x8 (wrap64 (x10 - 1))).f0) ((rd_T25 x8 (wrap64 (x10 - 1))).f1) ((rd_T25 x8 (wrap64 (x10 - 1))).f2) ((rd_T25 x8 (wrap64 (x10 - 2))).f0) ((rd_T25 x8 (wrap64 (x10 - 2))).f1) ((rd_T25 x8 (wrap64 (x10 - 2))).f2)).bind fun t485 => (if t482 > t485 then ((impl_firstChild.f x0 x9).bind fun t486 => (impl_PlaceOfBall.l0 k x0 x8 (wrap64 (t486 + (wrap64 (t482 - 1)))) (wrap64 (x10 + 1)))) else ((impl_firstChild.f x0 x9).bind fun t487 => (impl_PlaceOfBall.l0 k x0 x8 (wrap64 (t487 + t482)) (wrap64 (x10 + 1)))))) else (none)) else (none)) else ((impl_firstChild.f x0 x9).bind fun t488 => (impl_PlaceOfBall.l0 k x0 x8 (wrap64 (t488 + t482)) (wrap64 (x10 + 1)))))) else (none)) else (none)) else (none)) else (some (x9, 0))
def impl_PlaceOfBall.f (k : Nat) (a0 a1_0 a1_1 a1_2 a2_0 a2_1 a2_2 : Int) : Option (Int × Int) := (impl_areBalls.f k a0 (([(⟨a1_0, a1_1, a1_2⟩ : S25), (⟨a2_0, a2_1, a2_2⟩ : S25)] : List (S25)))).bind fun t475 => (if t475 = true then ((impl_distance.f k a0 a1_0 a1_1 a1_2 a2_0 a2_1 a2_2).bind fun t476 => (if t476 > 4 then (some (0, 4)) else ((impl_geodesic.f k a0 a1_0 a1_1 a1_2 a2_0 a2_1 a2_2).bind fun t477 => (impl_PlaceOfBall.l0 k a0 t477 0 1)))) else (some (0, 1)))
def impl_PlaceOfBall.T9 : Bool × List (List Nat × List Nat) := (true, [([], []), ([], []), ([], []), ([2], [2]), ([1, 3], [1, 3]), ([4], [4]), ([], []), ([], []), ([6, 7], [6, 7]), ([8], [8]), ([0, 5, 9], [0, 5, 9]), ([10, 10, 0, 1, 2, 3, 4, 5, 6, 7, 8, 9, 10], [10])])
def impl_PlaceOfBall.B9 : List Nat := [0, 0, 0, 4, 14, 30, 0, 0, 192, 448, 1023, 2047]
theorem impl_PlaceOfBall.tab9 : rtab .any (opsOf Try.f45 9) = impl_PlaceOfBall.T9 := by kernel_rfl
theorem impl_PlaceOfBall.bits9 : waitsOk impl_PlaceOfBall.T9.2 impl_PlaceOfBall.B9 = true := by kernel_rfl
def impl_PlaceOfBall.T10 : Bool × List (List Nat × List Nat) := (true, [([], []), ([0], [0]), ([1], [1]), ([2], [2]), ([2], [2]), ([2], [2]), ([2], [2]), ([6, 2], [2, 6]), ([5, 7, 2], [2, 5, 7]), ([8, 2], [2, 8]), ([2], [2]), ([2], [2]), ([11, 2], [2, 11]), ([10, 12, 2], [2, 10, 12]), ([13, 2], [2, 13]), ([4, 9, 14, 2, 2], [2, 4, 9, 14]), ([3, 15, 2], [2, 3, 15]), ([2, 16], [2, 16])])
def impl_PlaceOfBall.B10 : List Nat := [0, 1, 3, 7, 7, 7, 7, 71, 231, 487, 7, 7, 2055, 7175, 15367, 32759, 65535, 131071]
theorem impl_PlaceOfBall.tab10 : rtab .any (opsOf Try.f45 10) = impl_PlaceOfBall.T10 := by kernel_rfl
theorem impl_PlaceOfBall.bits10 : waitsOk impl_PlaceOfBall.T10.2 impl_PlaceOfBall.B10 = true := by kernel_rfl
set_option maxHeartbeats 8000000 in
set_option maxRecDepth 100000 in
theorem impl_PlaceOfBall.calls (k : Nat) (a0 a1_0 a1_1 a1_2 a2_0 a2_1 a2_2 r1 r2 : Int) (w : World) (h : impl_PlaceOfBall.f k a0 a1_0 a1_1 a1_2 a2_0 a2_1 a2_2 = some (r1, r2)) :
  Calls Try.prog 45 #[.int .i64 a0, .agg #[.int .i64 a1_0, .int .i64 a1_1, .int .i64 a1_2], .agg #[.int .i64 a2_0, .int .i64 a2_1, .int .i64 a2_2]] w fun e w' => e = .returned (.tuple #[.int .i64 r1, .int .i64 r2]) ∧ Below w.heap.size w w' := by
 have hu25 := Try.underlying25
 have HB := Aside0.mk (Below.refl w.heap.size w)
 unfold impl_PlaceOfBall.f at h
 have H := h
 clear h
 obtain ⟨y472, hy472⟩ : ∃ y_ : List (S25), y_ = (([(⟨a1_0, a1_1, a1_2⟩ : S25), (⟨a2_0, a2_1, a2_2⟩ : S25)] : List (S25))) := ⟨_, rfl⟩
 replace H : ((impl_areBalls.f k a0 y472).bind fun t475 => (if t475 = true then ((impl_distance.f k a0 a1_0 a1_1 a1_2 a2_0 a2_1 a2_2).bind fun t476 => (if t476 > 4 then (some (0, 4)) else ((impl_geodesic.f k a0 a1_0 a1_1 a1_2 a2_0 a2_1 a2_2).bind fun t477 => (impl_PlaceOfBall.l0 k a0 t477 0 1)))) else (some (0, 1)))) = some (r1, r2) := by first | (rw [hy472]; with_reducible exact H) | (have H2_ := (Option.bind_some _ _).symm.trans H; rw [hy472]; with_reducible exact H2_) | (have H2_ := (Option.bind_some _ _).symm.trans H; with_reducible exact H2_) | with_reducible exact H | (rw [hy472]; exact H) | exact H
 have Ny472 := Aside0.mk hy472
 clear hy472
 replace H := oc_ H
 obtain ⟨t475, A4, H⟩ := H
 replace H := ib_ H
 rcases H with ⟨rfl, H⟩ | ⟨rfl, H⟩
 ·replace H := oc_ H
  obtain ⟨t476, A6, H⟩ := H
  replace H := ig_ H
  rcases H with ⟨c7b0, H⟩ | ⟨c7b0, H⟩
  ·simp only [Option.some.injEq, Prod.mk.injEq] at H
   obtain ⟨rfl, rfl⟩ := H
   go_enter Try.func45, Try.ntmps45
   go_wp2_with (first | ((refine gd_ 4 ?_); refine by_ 4 #[.int .i64 a1_0, .int .i64 a1_1, .int .i64 a1_2] 25 HB ?_; intro gb470 hg w8 BK470 hb GW470 HB_; replace HB := HB_; clear hb hg) | ((refine gd_ 5 ?_); refine by_ 5 #[.int .i64 a2_0, .int .i64 a2_1, .int .i64 a2_2] 25 HB ?_; intro gb471 hg w9 BK471 hb GW471 HB_; have NB470_471 := bm_ BK470 hg; have NB471_470 := bn_ BK470 hg; replace BK470 := bb_ BK470 hb; replace HB := HB_; clear hb hg; have hnb10 := NB470_471.out; have hnc10 := NB471_470.out; obtain ⟨hcz11_0, hcz11_1, hcz11_2, hfz11_0, hfz11_1, hfz11_2⟩ := ch3_ BK470; obtain ⟨hcz12_0, hcz12_1, hcz12_2, hfz12_0, hfz12_1, hfz12_2⟩ := ch3_ BK471) | ((refine gd_ 16 ?_); refine Kd.R_lit k25 _ 25 ?hg (N := 16) ?hd (xs := ([(⟨a1_0, a1_1, a1_2⟩ : S25), (⟨a2_0, a2_1, a2_2⟩ : S25)] : List (S25))) (inner := [.int .i64 a1_0, .int .i64 a1_1, .int .i64 a1_2, .int .i64 a2_0, .int .i64 a2_1, .int .i64 a2_2]) (ok := fun _ => True) (okp := fun _ => True) ?hr ?hp (fun _ hk => hk) trivial (Below.refl _ _) (Nat.le_refl _) (by simp) ?_; (case hd => rfl); (case hg => rfl); (case hr => first | (go_simp; done) | (go_simp; rfl)); (case hp => exact (Reps.c3 (show Kd.M k25 _ _ _ (⟨a1_0, a1_1, a1_2⟩ : S25) [.int .i64 a1_0, .int .i64 a1_1, .int .i64 a1_2] from (k25_mkM _ _ _ (⟨a1_0, a1_1, a1_2⟩ : S25) )) (Reps.c3 (show Kd.M k25 _ _ _ (⟨a2_0, a2_1, a2_2⟩ : S25) [.int .i64 a2_0, .int .i64 a2_1, .int .i64 a2_2] from (k25_mkM _ _ _ (⟨a2_0, a2_1, a2_2⟩ : S25) )) (Reps.none _ _)))); intro v473 w13 ho14 hb hg_ hnew_; clear hg_ hnew_; (first | rw [← Ny472.out] at ho14 | (simp only [Int.reduceToNat] at ho14; rw [← Ny472.out] at ho14)); have HO474 := Aside0.mk (Kd.R_lower (Kd.R_newB (Kd.R_newB ho14 (g := gb470) (o := .cells #[.int .i64 a1_0, .int .i64 a1_1, .int .i64 a1_2] 25 (0, 0)) (bl_ BK470).out) (g := gb471) (o := .cells #[.int .i64 a2_0, .int .i64 a2_1, .int .i64 a2_2] 25 (0, 0)) (bl_ BK471).out) (below_size (bw_ HB).out)); replace BK470 := bb_ BK470 hb; replace BK471 := bb_ BK471 hb; replace HB := bt_ HB hb; clear hb ho14; obtain ⟨Ao15, co15, eo15⟩ := Kd.R_slice HO474.out; subst eo15) | ((refine gc_ 86 ?_); refine ge_ 17 Try.func86 #[.int .i64 a0, .slice Ao15 y472.length co15] ?_; (with_reducible refine (impl_areBalls.calls k a0 _ _ y472 true _ ?side1 ?side2 A4.out).mono ?_); (case side1 => exact ca_ (Kd.R_reads' HO474.out).2.2); (case side2 => exact (Kd.R_reads' HO474.out).2.1); rintro e w16 ⟨rfl, hb⟩; refine ⟨_, rfl, ?_⟩; replace HO474 := rb_ HO474 hb; replace BK470 := bb_ BK470 hb; replace BK471 := bb_ BK471 hb; replace HB := bt_ HB hb; (try clear hb); obtain ⟨hcz17_0, hcz17_1, hcz17_2, hfz17_0, hfz17_1, hfz17_2⟩ := ch3_ BK470; obtain ⟨hcz18_0, hcz18_1, hcz18_2, hfz18_0, hfz18_1, hfz18_2⟩ := ch3_ BK471) | ((refine gc_ 90 ?_); refine ge_ 23 Try.func90 #[.int .i64 a0, .agg #[.int .i64 a1_0, .int .i64 a1_1, .int .i64 a1_2], .agg #[.int .i64 a2_0, .int .i64 a2_1, .int .i64 a2_2]] ?_; (with_reducible refine (impl_distance.calls k a0 a1_0 a1_1 a1_2 a2_0 a2_1 a2_2 t476 _ A6.out).mono ?_); rintro e w19 ⟨rfl, hb⟩; refine ⟨_, rfl, ?_⟩; replace HO474 := rb_ HO474 hb; replace BK470 := bb_ BK470 hb; replace BK471 := bb_ BK471 hb; replace HB := bt_ HB hb; (try clear hb)))
   go_ret2
   exact ⟨es_, (bw_ HB).out⟩
  replace H := oc_ H
  obtain ⟨t477, A20, H⟩ := H
  have H' := Aside0.mk H
  clear H
  go_enter Try.func45, Try.ntmps45
  go_wp2_with (first | ((refine gd_ 4 ?_); refine by_ 4 #[.int .i64 a1_0, .int .i64 a1_1, .int .i64 a1_2] 25 HB ?_; intro gb470 hg w21 BK470 hb GW470 HB_; replace HB := HB_; clear hb hg) | ((refine gd_ 5 ?_); refine by_ 5 #[.int .i64 a2_0, .int .i64 a2_1, .int .i64 a2_2] 25 HB ?_; intro gb471 hg w22 BK471 hb GW471 HB_; have NB470_471 := bm_ BK470 hg; have NB471_470 := bn_ BK470 hg; replace BK470 := bb_ BK470 hb; replace HB := HB_; clear hb hg; have hnb23 := NB470_471.out; have hnc23 := NB471_470.out; obtain ⟨hcz24_0, hcz24_1, hcz24_2, hfz24_0, hfz24_1, hfz24_2⟩ := ch3_ BK470; obtain ⟨hcz25_0, hcz25_1, hcz25_2, hfz25_0, hfz25_1, hfz25_2⟩ := ch3_ BK471) | ((refine gd_ 16 ?_); refine Kd.R_lit k25 _ 25 ?hg (N := 16) ?hd (xs := ([(⟨a1_0, a1_1, a1_2⟩ : S25), (⟨a2_0, a2_1, a2_2⟩ : S25)] : List (S25))) (inner := [.int .i64 a1_0, .int .i64 a1_1, .int .i64 a1_2, .int .i64 a2_0, .int .i64 a2_1, .int .i64 a2_2]) (ok := fun _ => True) (okp := fun _ => True) ?hr ?hp (fun _ hk => hk) trivial (Below.refl _ _) (Nat.le_refl _) (by simp) ?_; (case hd => rfl); (case hg => rfl); (case hr => first | (go_simp; done) | (go_simp; rfl)); (case hp => exact (Reps.c3 (show Kd.M k25 _ _ _ (⟨a1_0, a1_1, a1_2⟩ : S25) [.int .i64 a1_0, .int .i64 a1_1, .int .i64 a1_2] from (k25_mkM _ _ _ (⟨a1_0, a1_1, a1_2⟩ : S25) )) (Reps.c3 (show Kd.M k25 _ _ _ (⟨a2_0, a2_1, a2_2⟩ : S25) [.int .i64 a2_0, .int .i64 a2_1, .int .i64 a2_2] from (k25_mkM _ _ _ (⟨a2_0, a2_1, a2_2⟩ : S25) )) (Reps.none _ _)))); intro v473 w26 ho27 hb hg_ hnew_; clear hg_ hnew_; (first | rw [← Ny472.out] at ho27 | (simp only [Int.reduceToNat] at ho27; rw [← Ny472.out] at ho27)); have HO474 := Aside0.mk (Kd.R_lower (Kd.R_newB (Kd.R_newB ho27 (g := gb470) (o := .cells #[.int .i64 a1_0, .int .i64 a1_1, .int .i64 a1_2] 25 (0, 0)) (bl_ BK470).out) (g := gb471) (o := .cells #[.int .i64 a2_0, .int .i64 a2_1, .int .i64 a2_2] 25 (0, 0)) (bl_ BK471).out) (below_size (bw_ HB).out)); replace BK470 := bb_ BK470 hb; replace BK471 := bb_ BK471 hb; replace HB := bt_ HB hb; clear hb ho27; obtain ⟨Ao28, co28, eo28⟩ := Kd.R_slice HO474.out; subst eo28) | ((refine gc_ 86 ?_); refine ge_ 17 Try.func86 #[.int .i64 a0, .slice Ao28 y472.length co28] ?_; (with_reducible refine (impl_areBalls.calls k a0 _ _ y472 true _ ?side1 ?side2 A4.out).mono ?_); (case side1 => exact ca_ (Kd.R_reads' HO474.out).2.2); (case side2 => exact (Kd.R_reads' HO474.out).2.1); rintro e w29 ⟨rfl, hb⟩; refine ⟨_, rfl, ?_⟩; replace HO474 := rb_ HO474 hb; replace BK470 := bb_ BK470 hb; replace BK471 := bb_ BK471 hb; replace HB := bt_ HB hb; (try clear hb); obtain ⟨hcz30_0, hcz30_1, hcz30_2, hfz30_0, hfz30_1, hfz30_2⟩ := ch3_ BK470; obtain ⟨hcz31_0, hcz31_1, hcz31_2, hfz31_0, hfz31_1, hfz31_2⟩ := ch3_ BK471) | ((refine gc_ 90 ?_); refine ge_ 23 Try.func90 #[.int .i64 a0, .agg #[.int .i64 a1_0, .int .i64 a1_1, .int .i64 a1_2], .agg #[.int .i64 a2_0, .int .i64 a2_1, .int .i64 a2_2]] ?_; (with_reducible refine (impl_distance.calls k a0 a1_0 a1_1 a1_2 a2_0 a2_1 a2_2 t476 _ A6.out).mono ?_); rintro e w32 ⟨rfl, hb⟩; refine ⟨_, rfl, ?_⟩; replace HO474 := rb_ HO474 hb; replace BK470 := bb_ BK470 hb; replace BK471 := bb_ BK471 hb; replace HB := bt_ HB hb; (try clear hb); obtain ⟨hcz33_0, hcz33_1, hcz33_2, hfz33_0, hfz33_1, hfz33_2⟩ := ch3_ BK470; obtain ⟨hcz34_0, hcz34_1, hcz34_2, hfz34_0, hfz34_1, hfz34_2⟩ := ch3_ BK471) | ((refine gc_ 115 ?_); refine ge_ 28 Try.func115 #[.int .i64 a0, .agg #[.int .i64 a1_0, .int .i64 a1_1, .int .i64 a1_2], .agg #[.int .i64 a2_0, .int .i64 a2_1, .int .i64 a2_2]] ?_; (with_reducible refine (impl_geodesic.calls k a0 a1_0 a1_1 a1_2 a2_0 a2_1 a2_2 t477 _ A20.out).mono ?_); rintro e w35 ⟨v478, rfl, ho0, hb⟩; refine ⟨_, rfl, ?_⟩; have HO479 := Aside0.mk (Kd.R_lower (Kd.R_newB (Kd.R_newB (Kd.R_new' ho0 (Kd.R_lt (ra_ HO474.out))) (g := gb470) (o := .cells #[.int .i64 a1_0, .int .i64 a1_1, .int .i64 a1_2] 25 (0, 0)) (bl_ BK470).out) (g := gb471) (o := .cells #[.int .i64 a2_0, .int .i64 a2_1, .int .i64 a2_2] 25 (0, 0)) (bl_ BK471).out) (below_size (bw_ HB).out)); replace HO474 := Aside0.mk (Kd.R_elder' (ra_ HO474.out) (Kd.R_base ho0) hb); replace BK470 := bb_ BK470 hb; replace BK471 := bb_ BK471 hb; replace HB := bt_ HB hb; (try clear hb); (try clear ho0)))
  go_loopg [9, 10] k (fun kq v9 v10 w' => ∃ (x9_1 : Int) (x10_1 : Int), v9 = .int .i64 x9_1 ∧ v10 = .int .i64 x10_1 ∧ Aside0 (impl_PlaceOfBall.l0 kq a0 t477 x9_1 x10_1 = some (r1, r2)) ∧ Aside0 (kq ≤ k) ∧ Aside0 (Kd.R k25 25 w' w.heap.size (fun k_ => k_ ≠ gb470 ∧ k_ ≠ gb471) v478 t477) ∧ Aside0 (w'.heap[gb470]? = some (.cells #[.int .i64 a1_0, .int .i64 a1_1, .int .i64 a1_2] 25 (0, 0))) ∧ Aside0 (w'.heap[gb471]? = some (.cells #[.int .i64 a2_0, .int .i64 a2_1, .int .i64 a2_2] 25 (0, 0))) ∧ Aside0 (Below w.heap.size w w'))
  case atStart => exact ⟨(0), (1), en_, en_, H', ⟨Nat.le_refl _⟩, ⟨by (with_reducible repeat (first | apply Kd.R_alloc | apply Kd.R_drewN | apply Kd.R_drew)); exact Kd.R_mono HO479.out (fun _ hk => ⟨hk.1.2, hk.2⟩)⟩, bl_ BK470, bl_ BK471, bw_ HB⟩
  clear H'
  try clear c3
  try clear c7b0
  try clear hcz11_0 hcz11_1 hcz11_2
  try clear hcz12_0 hcz12_1 hcz12_2
  try clear hcz17_0 hcz17_1 hcz17_2
  try clear hcz18_0 hcz18_1 hcz18_2
  try clear hcz24_0 hcz24_1 hcz24_2
  try clear hcz25_0 hcz25_1 hcz25_2
  try clear hcz30_0 hcz30_1 hcz30_2
  try clear hcz31_0 hcz31_1 hcz31_2
  try clear hcz33_0 hcz33_1 hcz33_2
  try clear hcz34_0 hcz34_1 hcz34_2
  try clear hfz11_0 hfz11_1 hfz11_2
  try clear hfz12_0 hfz12_1 hfz12_2
  try clear hfz17_0 hfz17_1 hfz17_2
  try clear hfz18_0 hfz18_1 hfz18_2
  try clear hfz24_0 hfz24_1 hfz24_2
  try clear hfz25_0 hfz25_1 hfz25_2
  try clear hfz30_0 hfz30_1 hfz30_2
  try clear hfz31_0 hfz31_1 hfz31_2
  try clear hfz33_0 hfz33_1 hfz33_2
  try clear hfz34_0 hfz34_1 hfz34_2
  obtain ⟨x9_1, x10_1, rfl, rfl, HA, HK1, HO_8, BK470, BK471, HB⟩ := hrel
  cases gk with
  | zero => exact absurd HA.out (by simp [impl_PlaceOfBall.l0])
  | succ k1 =>
   have H := HA.out
   clear HA
   simp only [impl_PlaceOfBall.l0] at H
   replace H := il_ H
   rcases H with ⟨c36b0, H⟩ | ⟨c36b0, H⟩
   ·obtain ⟨ji37, hji37⟩ : ∃ j_ : Int, (wrap64 (x10_1 - 1)) = j_ := ⟨_, rfl⟩
    replace H : (if 0 ≤ (ji37) then (if (ji37) < (t477.length : Int) then (if 0 ≤ x10_1 then ((impl_toward.f k1 a0 ((rd_T25 t477 (ji37)).f0) ((rd_T25 t477 (ji37)).f1) ((rd_T25 t477 (ji37)).f2) ((rd_T25 t477 x10_1).f0) ((rd_T25 t477 x10_1).f1) ((rd_T25 t477 x10_1).f2)).bind fun t482 => (if x10_1 > 1 then (if 0 ≤ (wrap64 (x10_1 - 2)) then (if (wrap64 (x10_1 - 2)) < (t477.length : Int) then ((impl_toward.f k1 a0 ((rd_T25 t477 (ji37)).f0) ((rd_T25 t477 (ji37)).f1) ((rd_T25 t477 (ji37)).f2) ((rd_T25 t477 (wrap64 (x10_1 - 2))).f0) ((rd_T25 t477 (wrap64 (x10_1 - 2))).f1) ((rd_T25 t477 (wrap64 (x10_1 - 2))).f2)).bind fun t485 => (if t482 > t485 then ((impl_firstChild.f a0 x9_1).bind fun t486 => (impl_PlaceOfBall.l0 k1 a0 t477 (wrap64 (t486 + (wrap64 (t482 - 1)))) (wrap64 (x10_1 + 1)))) else ((impl_firstChild.f a0 x9_1).bind fun t487 => (impl_PlaceOfBall.l0 k1 a0 t477 (wrap64 (t487 + t482)) (wrap64 (x10_1 + 1)))))) else (none)) else (none)) else ((impl_firstChild.f a0 x9_1).bind fun t488 => (impl_PlaceOfBall.l0 k1 a0 t477 (wrap64 (t488 + t482)) (wrap64 (x10_1 + 1)))))) else (none)) else (none)) else (none)) = some (r1, r2) := by first | (rw [hji37] at H; exact H) | (simp only [hji37] at H ⊢; exact H)
    have hji37w : (IntKind.i64.wrap (x10_1 - 1)) = ji37 := (i64_w _).trans hji37
    replace H := imn_ H
    obtain ⟨c38b0, H⟩ := H
    replace H := iln_ H
    obtain ⟨c39b0, H⟩ := H
    replace H := imn_ H
    obtain ⟨c40b0, H⟩ := H
    replace H := oc_ H
    obtain ⟨t482, A41, H⟩ := H
    replace H := ig_ H
    rcases H with ⟨c42b0, H⟩ | ⟨c42b0, H⟩
    ·obtain ⟨ji43, hji43⟩ : ∃ j_ : Int, (wrap64 (x10_1 - 2)) = j_ := ⟨_, rfl⟩
     replace H : (if 0 ≤ (ji43) then (if (ji43) < (t477.length : Int) then ((impl_toward.f k1 a0 ((rd_T25 t477 (ji37)).f0) ((rd_T25 t477 (ji37)).f1) ((rd_T25 t477 (ji37)).f2) ((rd_T25 t477 (ji43)).f0) ((rd_T25 t477 (ji43)).f1) ((rd_T25 t477 (ji43)).f2)).bind fun t485 => (if t482 > t485 then ((impl_firstChild.f a0 x9_1).bind fun t486 => (impl_PlaceOfBall.l0 k1 a0 t477 (wrap64 (t486 + (wrap64 (t482 - 1)))) (wrap64 (x10_1 + 1)))) else ((impl_firstChild.f a0 x9_1).bind fun t487 => (impl_PlaceOfBall.l0 k1 a0 t477 (wrap64 (t487 + t482)) (wrap64 (x10_1 + 1)))))) else (none)) else (none)) = some (r1, r2) := by first | (rw [hji43] at H; exact H) | (simp only [hji43] at H ⊢; exact H)
     (try rw [hji43] at A41)
     have hji43w : (IntKind.i64.wrap (x10_1 - 2)) = ji43 := (i64_w _).trans hji43
     replace H := imn_ H
     obtain ⟨c44b0, H⟩ := H
     replace H := iln_ H
     obtain ⟨c45b0, H⟩ := H
     replace H := oc_ H
     obtain ⟨t485, A46, H⟩ := H
     replace H := ig_ H
     rcases H with ⟨c47b0, H⟩ | ⟨c47b0, H⟩
     ·replace H := oc_ H
      obtain ⟨t486, A48, H⟩ := H
      have H' := Aside0.mk H
      clear H
      obtain ⟨Ao49, co49, eo49⟩ := Kd.R_slice HO_8.out
      subst eo49
      try go_wp2
      replace HO_8 := Aside0.mk (Kd.R_drew HO_8.out)
      replace BK470 := bd_ BK470
      replace BK471 := bd_ BK471
      replace HB := be_ HB
      have p480 : 0 ≤ ((ji37) : Int) := od_
      have q480 : (ji37) < (t477.length : Int) := od_
      obtain ⟨ad480, e480, hx480_0, hx480_1, hx480_2⟩ := at_T25 (Kd.R_reads' HO_8.out).2.2 (ji37) p480 q480
      cases e480
      replace p480 := eq_true p480
      replace q480 := eq_true q480
      have p481 : 0 ≤ (x10_1 : Int) := od_
      have q481 : x10_1 < (t477.length : Int) := od_
      obtain ⟨ad481, e481, hx481_0, hx481_1, hx481_2⟩ := at_T25 (Kd.R_reads' HO_8.out).2.2 x10_1 p481 q481
      obtain rfl : ad480 = ad481 := (by injection e481)
      replace p481 := eq_true p481
      replace q481 := eq_true q481
      refine start_ (n := 12) (S := fun w' => w'.cell? (ad480.add (((ji37)).toNat * 3)) = some (.int .i64 ((rd_T25 t477 (ji37)).f0)) ∧ w'.cell? ⟨(ad480.add (((ji37)).toNat * 3)).block, (ad480.add (((ji37)).toNat * 3)).off + 1, none⟩ = some (.int .i64 ((rd_T25 t477 (ji37)).f1)) ∧ w'.cell? ⟨(ad480.add (((ji37)).toNat * 3)).block, (ad480.add (((ji37)).toNat * 3)).off + 2, none⟩ = some (.int .i64 ((rd_T25 t477 (ji37)).f2)) ∧ w'.cell? (ad480.add ((x10_1).toNat * 3)) = some (.int .i64 ((rd_T25 t477 x10_1).f0)) ∧ w'.cell? ⟨(ad480.add ((x10_1).toNat * 3)).block, (ad480.add ((x10_1).toNat * 3)).off + 1, none⟩ = some (.int .i64 ((rd_T25 t477 x10_1).f1)) ∧ w'.cell? ⟨(ad480.add ((x10_1).toNat * 3)).block, (ad480.add ((x10_1).toNat * 3)).off + 2, none⟩ = some (.int .i64 ((rd_T25 t477 x10_1).f2))) (ds := []) (bv_ 12 0) (by kernel_rfl) rfl rfl ⟨hx480_0, hx480_1, hx480_2, hx481_0, hx481_1, hx481_2⟩ (fun hHeld => ?_); refine with_tabW impl_PlaceOfBall.tab9 impl_PlaceOfBall.bits9 (fun HT_ HW_ => ?_)
      generalize wr.drew = w50 at HO_8 BK470 BK471 HB hx480_0 hx480_1 hx480_2 hx481_0 hx481_1 hx481_2 hHeld ⊢
      refine px_ HT_ 0 35 1 ?_
      refine px_ HT_ 1 36 3 ?_
      refine px_ HT_ 2 37 7 ?_
      refine px_ HT_ 3 38 15 ?_
      refine px_ HT_ 4 39 31 ?_
      refine px_ HT_ 6 41 95 ?_
      refine px_ HT_ 7 42 223 ?_
      refine px_ HT_ 8 43 479 ?_
      refine ta_ HT_ HW_ 5 (some 40) (bv_ 12 511) hHeld ?_ (hy := by rintro w' ⟨s0, s1, s2, s3, s4, s5⟩; go_simp; with_reducible rfl)
      refine ta_ HT_ HW_ 9 (some 44) (bv_ 12 1023) hHeld ?_ (hy := by rintro w' ⟨s0, s1, s2, s3, s4, s5⟩; go_simp; with_reducible rfl)
      refine on_ HT_ 10 (some 45) (bv_ 12 2047) (fun K hK => ?_)
      refine gs_ Try.func116 #[.int .i64 a0, .agg #[.int .i64 ((rd_T25 t477 (ji37)).f0), .int .i64 ((rd_T25 t477 (ji37)).f1), .int .i64 ((rd_T25 t477 (ji37)).f2)], .agg #[.int .i64 ((rd_T25 t477 x10_1).f0), .int .i64 ((rd_T25 t477 x10_1).f1), .int .i64 ((rd_T25 t477 x10_1).f2)]] ?_ (hargs := by (try simp only [List.map_toArray, List.map_cons, List.map_nil]); first | done | (simp only [hji37]; rfl) | rfl | (simp only [List.length_drop, List.length_take]; rfl))
      with_reducible refine (impl_toward.calls k1 a0 ((rd_T25 t477 (ji37)).f0) ((rd_T25 t477 (ji37)).f1) ((rd_T25 t477 (ji37)).f2) ((rd_T25 t477 x10_1).f0) ((rd_T25 t477 x10_1).f1) ((rd_T25 t477 x10_1).f2) t482 _ A41.out).mono ?_
      rintro e w51 ⟨rfl, hb⟩
      have HS0_ := (hb.cell (World.block_lt_of_cell? _ _ (hHeld.1))).trans (hHeld.1)
      have HS1_ := (hb.cell (World.block_lt_of_cell? _ _ (hHeld.2.1))).trans (hHeld.2.1)
      have HS2_ := (hb.cell (World.block_lt_of_cell? _ _ (hHeld.2.2.1))).trans (hHeld.2.2.1)
      have HS3_ := (hb.cell (World.block_lt_of_cell? _ _ (hHeld.2.2.2.1))).trans (hHeld.2.2.2.1)
      have HS4_ := (hb.cell (World.block_lt_of_cell? _ _ (hHeld.2.2.2.2.1))).trans (hHeld.2.2.2.2.1)
      have HS5_ := (hb.cell (World.block_lt_of_cell? _ _ (hHeld.2.2.2.2.2))).trans (hHeld.2.2.2.2.2)
      refine ⟨_, rfl, ?_⟩
      replace HO_8 := rb_ HO_8 hb
      replace BK470 := bb_ BK470 hb
      replace BK471 := bb_ BK471 hb
      replace HB := bt_ HB hb
      try clear hb
      refine hK.out _ _ ⟨HS0_, HS1_, HS2_, HS3_, HS4_, HS5_⟩ (fun hHeld => ?_)
      clear hK K
      refine nm_ (some 45) ?_
      refine px_ HT_ 11 11 4095 ?_
      refine done_ (done_of HT_.out (by kernel_rfl)) ?_
      try go_wp2
      replace HO_8 := Aside0.mk (Kd.R_drew HO_8.out)
      replace BK470 := bd_ BK470
      replace BK471 := bd_ BK471
      replace HB := be_ HB
      have p483 : 0 ≤ ((ji37) : Int) := od_
      have q483 : (ji37) < (t477.length : Int) := od_
      obtain ⟨ad483, e483, hx483_0, hx483_1, hx483_2⟩ := at_T25 (Kd.R_reads' HO_8.out).2.2 (ji37) p483 q483
      obtain rfl : ad480 = ad483 := (by injection e483)
      replace p483 := eq_true p483
      replace q483 := eq_true q483
      have p484 : 0 ≤ ((ji43) : Int) := od_
      have q484 : (ji43) < (t477.length : Int) := od_
      obtain ⟨ad484, e484, hx484_0, hx484_1, hx484_2⟩ := at_T25 (Kd.R_reads' HO_8.out).2.2 (ji43) p484 q484
      obtain rfl : ad480 = ad484 := (by injection e484)
      replace p484 := eq_true p484
      replace q484 := eq_true q484
      refine start_ (n := 18) (S := fun w' => w'.cell? (ad480.add (((ji37)).toNat * 3)) = some (.int .i64 ((rd_T25 t477 (ji37)).f0)) ∧ w'.cell? ⟨(ad480.add (((ji37)).toNat * 3)).block, (ad480.add (((ji37)).toNat * 3)).off + 1, none⟩ = some (.int .i64 ((rd_T25 t477 (ji37)).f1)) ∧ w'.cell? ⟨(ad480.add (((ji37)).toNat * 3)).block, (ad480.add (((ji37)).toNat * 3)).off + 2, none⟩ = some (.int .i64 ((rd_T25 t477 (ji37)).f2)) ∧ w'.cell? (ad480.add (((ji43)).toNat * 3)) = some (.int .i64 ((rd_T25 t477 (ji43)).f0)) ∧ w'.cell? ⟨(ad480.add (((ji43)).toNat * 3)).block, (ad480.add (((ji43)).toNat * 3)).off + 1, none⟩ = some (.int .i64 ((rd_T25 t477 (ji43)).f1)) ∧ w'.cell? ⟨(ad480.add (((ji43)).toNat * 3)).block, (ad480.add (((ji43)).toNat * 3)).off + 2, none⟩ = some (.int .i64 ((rd_T25 t477 (ji43)).f2))) (ds := []) (bv_ 18 0) (by kernel_rfl) rfl rfl ⟨hx483_0, hx483_1, hx483_2, hx484_0, hx484_1, hx484_2⟩ (fun hHeld => ?_); refine with_tabW impl_PlaceOfBall.tab10 impl_PlaceOfBall.bits10 (fun HT_ HW_ => ?_)
      generalize w51.drew = w52 at HO_8 BK470 BK471 HB hx483_0 hx483_1 hx483_2 hx484_0 hx484_1 hx484_2 hHeld ⊢
      refine px_ HT_ 0 46 1 ?_
      refine px_ HT_ 1 47 3 ?_
      refine px_ HT_ 2 48 7 ?_
      refine px_ HT_ 3 49 15 ?_
      refine px_ HT_ 4 50 31 ?_
      refine px_ HT_ 5 51 63 ?_
      refine px_ HT_ 6 52 127 ?_
      refine px_ HT_ 7 53 255 ?_
      refine px_ HT_ 8 54 511 ?_
      refine px_ HT_ 10 56 1535 ?_
      refine px_ HT_ 11 57 3583 ?_
      refine px_ HT_ 12 58 7679 ?_
      refine px_ HT_ 13 59 15871 ?_
      refine ta_ HT_ HW_ 9 (some 55) (bv_ 18 16383) hHeld ?_ (hy := by rintro w' ⟨s0, s1, s2, s3, s4, s5⟩; go_simp; with_reducible rfl)
      refine ta_ HT_ HW_ 14 (some 60) (bv_ 18 32767) hHeld ?_ (hy := by rintro w' ⟨s0, s1, s2, s3, s4, s5⟩; go_simp; with_reducible rfl)
      refine on_ HT_ 15 (some 61) (bv_ 18 65535) (fun K hK => ?_)
      refine gs_ Try.func116 #[.int .i64 a0, .agg #[.int .i64 ((rd_T25 t477 (ji37)).f0), .int .i64 ((rd_T25 t477 (ji37)).f1), .int .i64 ((rd_T25 t477 (ji37)).f2)], .agg #[.int .i64 ((rd_T25 t477 (ji43)).f0), .int .i64 ((rd_T25 t477 (ji43)).f1), .int .i64 ((rd_T25 t477 (ji43)).f2)]] ?_ (hargs := by (try simp only [List.map_toArray, List.map_cons, List.map_nil]); first | done | (simp only [hji37, hji43]; rfl) | rfl | (simp only [List.length_drop, List.length_take]; rfl))
      with_reducible refine (impl_toward.calls k1 a0 ((rd_T25 t477 (ji37)).f0) ((rd_T25 t477 (ji37)).f1) ((rd_T25 t477 (ji37)).f2) ((rd_T25 t477 (ji43)).f0) ((rd_T25 t477 (ji43)).f1) ((rd_T25 t477 (ji43)).f2) t485 _ A46.out).mono ?_
      rintro e w53 ⟨rfl, hb⟩
      have HS0_ := (hb.cell (World.block_lt_of_cell? _ _ (hHeld.1))).trans (hHeld.1)
      have HS1_ := (hb.cell (World.block_lt_of_cell? _ _ (hHeld.2.1))).trans (hHeld.2.1)
      have HS2_ := (hb.cell (World.block_lt_of_cell? _ _ (hHeld.2.2.1))).trans (hHeld.2.2.1)
      have HS3_ := (hb.cell (World.block_lt_of_cell? _ _ (hHeld.2.2.2.1))).trans (hHeld.2.2.2.1)
      have HS4_ := (hb.cell (World.block_lt_of_cell? _ _ (hHeld.2.2.2.2.1))).trans (hHeld.2.2.2.2.1)
      have HS5_ := (hb.cell (World.block_lt_of_cell? _ _ (hHeld.2.2.2.2.2))).trans (hHeld.2.2.2.2.2)
      refine ⟨_, rfl, ?_⟩
      replace HO_8 := rb_ HO_8 hb
      replace BK470 := bb_ BK470 hb
      replace BK471 := bb_ BK471 hb
      replace HB := bt_ HB hb
      try clear hb
      refine hK.out _ _ ⟨HS0_, HS1_, HS2_, HS3_, HS4_, HS5_⟩ (fun hHeld => ?_)
      clear hK K
      refine nm_ (some 61) ?_
      refine px_ HT_ 16 62 131071 ?_
      refine px_ HT_ 17 63 262143 ?_
      refine done_ (done_of HT_.out (by kernel_rfl)) ?_
      try go_wp2_with (first | ((refine gc_ 117 ?_); refine ge_ 68 Try.func117 #[.int .i64 a0, .int .i64 x9_1] ?_; (with_reducible refine (impl_firstChild.calls a0 x9_1 t486 _ A48.out).mono ?_); rintro e w' ⟨rfl, ⟨nd, rfl⟩⟩; refine ⟨_, rfl, ?_⟩))
      go_roundg k1
      case measure => have := HK1.out; omega
      case rel => exact ⟨(wrap64 (t486 + (wrap64 (t482 - 1)))), (wrap64 (x10_1 + 1)), en_, en_, H', ⟨by have := HK1.out; omega⟩, ⟨by (with_reducible repeat (first | apply Kd.R_alloc | apply Kd.R_drewN | apply Kd.R_drew)); exact HO_8.out⟩, bl_ BK470, bl_ BK471, bw_ HB⟩
     replace H := oc_ H
     obtain ⟨t487, A54, H⟩ := H
     have H' := Aside0.mk H
     clear H
     obtain ⟨Ao55, co55, eo55⟩ := Kd.R_slice HO_8.out
     subst eo55
     try go_wp2
     replace HO_8 := Aside0.mk (Kd.R_drew HO_8.out)
     replace BK470 := bd_ BK470
     replace BK471 := bd_ BK471
     replace HB := be_ HB
     have p480 : 0 ≤ ((ji37) : Int) := od_
     have q480 : (ji37) < (t477.length : Int) := od_
     obtain ⟨ad480, e480, hx480_0, hx480_1, hx480_2⟩ := at_T25 (Kd.R_reads' HO_8.out).2.2 (ji37) p480 q480
     cases e480
     replace p480 := eq_true p480
     replace q480 := eq_true q480
     have p481 : 0 ≤ (x10_1 : Int) := od_
     have q481 : x10_1 < (t477.length : Int) := od_
     obtain ⟨ad481, e481, hx481_0, hx481_1, hx481_2⟩ := at_T25 (Kd.R_reads' HO_8.out).2.2 x10_1 p481 q481
     obtain rfl : ad480 = ad481 := (by injection e481)
     replace p481 := eq_true p481
     replace q481 := eq_true q481
     refine start_ (n := 12) (S := fun w' => w'.cell? (ad480.add (((ji37)).toNat * 3)) = some (.int .i64 ((rd_T25 t477 (ji37)).f0)) ∧ w'.cell? ⟨(ad480.add (((ji37)).toNat * 3)).block, (ad480.add (((ji37)).toNat * 3)).off + 1, none⟩ = some (.int .i64 ((rd_T25 t477 (ji37)).f1)) ∧ w'.cell? ⟨(ad480.add (((ji37)).toNat * 3)).block, (ad480.add (((ji37)).toNat * 3)).off + 2, none⟩ = some (.int .i64 ((rd_T25 t477 (ji37)).f2)) ∧ w'.cell? (ad480.add ((x10_1).toNat * 3)) = some (.int .i64 ((rd_T25 t477 x10_1).f0)) ∧ w'.cell? ⟨(ad480.add ((x10_1).toNat * 3)).block, (ad480.add ((x10_1).toNat * 3)).off + 1, none⟩ = some (.int .i64 ((rd_T25 t477 x10_1).f1)) ∧ w'.cell? ⟨(ad480.add ((x10_1).toNat * 3)).block, (ad480.add ((x10_1).toNat * 3)).off + 2, none⟩ = some (.int .i64 ((rd_T25 t477 x10_1).f2))) (ds := []) (bv_ 12 0) (by kernel_rfl) rfl rfl ⟨hx480_0, hx480_1, hx480_2, hx481_0, hx481_1, hx481_2⟩ (fun hHeld => ?_); refine with_tabW impl_PlaceOfBall.tab9 impl_PlaceOfBall.bits9 (fun HT_ HW_ => ?_)
     generalize wr.drew = w56 at HO_8 BK470 BK471 HB hx480_0 hx480_1 hx480_2 hx481_0 hx481_1 hx481_2 hHeld ⊢
     refine px_ HT_ 0 35 1 ?_
     refine px_ HT_ 1 36 3 ?_
     refine px_ HT_ 2 37 7 ?_
     refine px_ HT_ 3 38 15 ?_
     refine px_ HT_ 4 39 31 ?_
     refine px_ HT_ 6 41 95 ?_
     refine px_ HT_ 7 42 223 ?_
     refine px_ HT_ 8 43 479 ?_
     refine ta_ HT_ HW_ 5 (some 40) (bv_ 12 511) hHeld ?_ (hy := by rintro w' ⟨s0, s1, s2, s3, s4, s5⟩; go_simp; with_reducible rfl)
     refine ta_ HT_ HW_ 9 (some 44) (bv_ 12 1023) hHeld ?_ (hy := by rintro w' ⟨s0, s1, s2, s3, s4, s5⟩; go_simp; with_reducible rfl)
     refine on_ HT_ 10 (some 45) (bv_ 12 2047) (fun K hK => ?_)
     refine gs_ Try.func116 #[.int .i64 a0, .agg #[.int .i64 ((rd_T25 t477 (ji37)).f0), .int .i64 ((rd_T25 t477 (ji37)).f1), .int .i64 ((rd_T25 t477 (ji37)).f2)], .agg #[.int .i64 ((rd_T25 t477 x10_1).f0), .int .i64 ((rd_T25 t477 x10_1).f1), .int .i64 ((rd_T25 t477 x10_1).f2)]] ?_ (hargs := by (try simp only [List.map_toArray, List.map_cons, List.map_nil]); first | done | (simp only [hji37]; rfl) | rfl | (simp only [List.length_drop, List.length_take]; rfl))
     with_reducible refine (impl_toward.calls k1 a0 ((rd_T25 t477 (ji37)).f0) ((rd_T25 t477 (ji37)).f1) ((rd_T25 t477 (ji37)).f2) ((rd_T25 t477 x10_1).f0) ((rd_T25 t477 x10_1).f1) ((rd_T25 t477 x10_1).f2) t482 _ A41.out).mono ?_
     rintro e w57 ⟨rfl, hb⟩
     have HS0_ := (hb.cell (World.block_lt_of_cell? _ _ (hHeld.1))).trans (hHeld.1)
     have HS1_ := (hb.cell (World.block_lt_of_cell? _ _ (hHeld.2.1))).trans (hHeld.2.1)
     have HS2_ := (hb.cell (World.block_lt_of_cell? _ _ (hHeld.2.2.1))).trans (hHeld.2.2.1)
     have HS3_ := (hb.cell (World.block_lt_of_cell? _ _ (hHeld.2.2.2.1))).trans (hHeld.2.2.2.1)
     have HS4_ := (hb.cell (World.block_lt_of_cell? _ _ (hHeld.2.2.2.2.1))).trans (hHeld.2.2.2.2.1)
     have HS5_ := (hb.cell (World.block_lt_of_cell? _ _ (hHeld.2.2.2.2.2))).trans (hHeld.2.2.2.2.2)
     refine ⟨_, rfl, ?_⟩
     replace HO_8 := rb_ HO_8 hb
     replace BK470 := bb_ BK470 hb
     replace BK471 := bb_ BK471 hb
     replace HB := bt_ HB hb
     try clear hb
     refine hK.out _ _ ⟨HS0_, HS1_, HS2_, HS3_, HS4_, HS5_⟩ (fun hHeld => ?_)
     clear hK K
     refine nm_ (some 45) ?_
     refine px_ HT_ 11 11 4095 ?_
     refine done_ (done_of HT_.out (by kernel_rfl)) ?_
     try go_wp2
     replace HO_8 := Aside0.mk (Kd.R_drew HO_8.out)
     replace BK470 := bd_ BK470
     replace BK471 := bd_ BK471
     replace HB := be_ HB
     have p483 : 0 ≤ ((ji37) : Int) := od_
     have q483 : (ji37) < (t477.length : Int) := od_
     obtain ⟨ad483, e483, hx483_0, hx483_1, hx483_2⟩ := at_T25 (Kd.R_reads' HO_8.out).2.2 (ji37) p483 q483
     obtain rfl : ad480 = ad483 := (by injection e483)
     replace p483 := eq_true p483
     replace q483 := eq_true q483
     have p484 : 0 ≤ ((ji43) : Int) := od_
     have q484 : (ji43) < (t477.length : Int) := od_
     obtain ⟨ad484, e484, hx484_0, hx484_1, hx484_2⟩ := at_T25 (Kd.R_reads' HO_8.out).2.2 (ji43) p484 q484
     obtain rfl : ad480 = ad484 := (by injection e484)
     replace p484 := eq_true p484
     replace q484 := eq_true q484
     refine start_ (n := 18) (S := fun w' => w'.cell? (ad480.add (((ji37)).toNat * 3)) = some (.int .i64 ((rd_T25 t477 (ji37)).f0)) ∧ w'.cell? ⟨(ad480.add (((ji37)).toNat * 3)).block, (ad480.add (((ji37)).toNat * 3)).off + 1, none⟩ = some (.int .i64 ((rd_T25 t477 (ji37)).f1)) ∧ w'.cell? ⟨(ad480.add (((ji37)).toNat * 3)).block, (ad480.add (((ji37)).toNat * 3)).off + 2, none⟩ = some (.int .i64 ((rd_T25 t477 (ji37)).f2)) ∧ w'.cell? (ad480.add (((ji43)).toNat * 3)) = some (.int .i64 ((rd_T25 t477 (ji43)).f0)) ∧ w'.cell? ⟨(ad480.add (((ji43)).toNat * 3)).block, (ad480.add (((ji43)).toNat * 3)).off + 1, none⟩ = some (.int .i64 ((rd_T25 t477 (ji43)).f1)) ∧ w'.cell? ⟨(ad480.add (((ji43)).toNat * 3)).block, (ad480.add (((ji43)).toNat * 3)).off + 2, none⟩ = some (.int .i64 ((rd_T25 t477 (ji43)).f2))) (ds := []) (bv_ 18 0) (by kernel_rfl) rfl rfl ⟨hx483_0, hx483_1, hx483_2, hx484_0, hx484_1, hx484_2⟩ (fun hHeld => ?_); refine with_tabW impl_PlaceOfBall.tab10 impl_PlaceOfBall.bits10 (fun HT_ HW_ => ?_)
     generalize w57.drew = w58 at HO_8 BK470 BK471 HB hx483_0 hx483_1 hx483_2 hx484_0 hx484_1 hx484_2 hHeld ⊢
     refine px_ HT_ 0 46 1 ?_
     refine px_ HT_ 1 47 3 ?_
     refine px_ HT_ 2 48 7 ?_
     refine px_ HT_ 3 49 15 ?_
     refine px_ HT_ 4 50 31 ?_
     refine px_ HT_ 5 51 63 ?_
     refine px_ HT_ 6 52 127 ?_
     refine px_ HT_ 7 53 255 ?_
     refine px_ HT_ 8 54 511 ?_
     refine px_ HT_ 10 56 1535 ?_
     refine px_ HT_ 11 57 3583 ?_
     refine px_ HT_ 12 58 7679 ?_
     refine px_ HT_ 13 59 15871 ?_
     refine ta_ HT_ HW_ 9 (some 55) (bv_ 18 16383) hHeld ?_ (hy := by rintro w' ⟨s0, s1, s2, s3, s4, s5⟩; go_simp; with_reducible rfl)
     refine ta_ HT_ HW_ 14 (some 60) (bv_ 18 32767) hHeld ?_ (hy := by rintro w' ⟨s0, s1, s2, s3, s4, s5⟩; go_simp; with_reducible rfl)
     refine on_ HT_ 15 (some 61) (bv_ 18 65535) (fun K hK => ?_)
     refine gs_ Try.func116 #[.int .i64 a0, .agg #[.int .i64 ((rd_T25 t477 (ji37)).f0), .int .i64 ((rd_T25 t477 (ji37)).f1), .int .i64 ((rd_T25 t477 (ji37)).f2)], .agg #[.int .i64 ((rd_T25 t477 (ji43)).f0), .int .i64 ((rd_T25 t477 (ji43)).f1), .int .i64 ((rd_T25 t477 (ji43)).f2)]] ?_ (hargs := by (try simp only [List.map_toArray, List.map_cons, List.map_nil]); first | done | (simp only [hji37, hji43]; rfl) | rfl | (simp only [List.length_drop, List.length_take]; rfl))
     with_reducible refine (impl_toward.calls k1 a0 ((rd_T25 t477 (ji37)).f0) ((rd_T25 t477 (ji37)).f1) ((rd_T25 t477 (ji37)).f2) ((rd_T25 t477 (ji43)).f0) ((rd_T25 t477 (ji43)).f1) ((rd_T25 t477 (ji43)).f2) t485 _ A46.out).mono ?_
     rintro e w59 ⟨rfl, hb⟩
     have HS0_ := (hb.cell (World.block_lt_of_cell? _ _ (hHeld.1))).trans (hHeld.1)
     have HS1_ := (hb.cell (World.block_lt_of_cell? _ _ (hHeld.2.1))).trans (hHeld.2.1)
     have HS2_ := (hb.cell (World.block_lt_of_cell? _ _ (hHeld.2.2.1))).trans (hHeld.2.2.1)
     have HS3_ := (hb.cell (World.block_lt_of_cell? _ _ (hHeld.2.2.2.1))).trans (hHeld.2.2.2.1)
     have HS4_ := (hb.cell (World.block_lt_of_cell? _ _ (hHeld.2.2.2.2.1))).trans (hHeld.2.2.2.2.1)
     have HS5_ := (hb.cell (World.block_lt_of_cell? _ _ (hHeld.2.2.2.2.2))).trans (hHeld.2.2.2.2.2)
     refine ⟨_, rfl, ?_⟩
     replace HO_8 := rb_ HO_8 hb
     replace BK470 := bb_ BK470 hb
     replace BK471 := bb_ BK471 hb
     replace HB := bt_ HB hb
     try clear hb
     refine hK.out _ _ ⟨HS0_, HS1_, HS2_, HS3_, HS4_, HS5_⟩ (fun hHeld => ?_)
     clear hK K
     refine nm_ (some 61) ?_
     refine px_ HT_ 16 62 131071 ?_
     refine px_ HT_ 17 63 262143 ?_
     refine done_ (done_of HT_.out (by kernel_rfl)) ?_
     try go_wp2_with (first | ((refine gc_ 117 ?_); refine ge_ 68 Try.func117 #[.int .i64 a0, .int .i64 x9_1] ?_; (with_reducible refine (impl_firstChild.calls a0 x9_1 t487 _ A54.out).mono ?_); rintro e w' ⟨rfl, ⟨nd, rfl⟩⟩; refine ⟨_, rfl, ?_⟩))
     go_roundg k1
     case measure => have := HK1.out; omega
     case rel => exact ⟨(wrap64 (t487 + t482)), (wrap64 (x10_1 + 1)), en_, en_, H', ⟨by have := HK1.out; omega⟩, ⟨by (with_reducible repeat (first | apply Kd.R_alloc | apply Kd.R_drewN | apply Kd.R_drew)); exact HO_8.out⟩, bl_ BK470, bl_ BK471, bw_ HB⟩
    replace H := oc_ H
    obtain ⟨t488, A60, H⟩ := H
    have H' := Aside0.mk H
    clear H
    obtain ⟨Ao61, co61, eo61⟩ := Kd.R_slice HO_8.out
    subst eo61
    try go_wp2
    replace HO_8 := Aside0.mk (Kd.R_drew HO_8.out)
    replace BK470 := bd_ BK470
    replace BK471 := bd_ BK471
    replace HB := be_ HB
    have p480 : 0 ≤ ((ji37) : Int) := od_
    have q480 : (ji37) < (t477.length : Int) := od_
    obtain ⟨ad480, e480, hx480_0, hx480_1, hx480_2⟩ := at_T25 (Kd.R_reads' HO_8.out).2.2 (ji37) p480 q480
    cases e480
    replace p480 := eq_true p480
    replace q480 := eq_true q480
    have p481 : 0 ≤ (x10_1 : Int) := od_
    have q481 : x10_1 < (t477.length : Int) := od_
    obtain ⟨ad481, e481, hx481_0, hx481_1, hx481_2⟩ := at_T25 (Kd.R_reads' HO_8.out).2.2 x10_1 p481 q481
    obtain rfl : ad480 = ad481 := (by injection e481)
    replace p481 := eq_true p481
    replace q481 := eq_true q481
    refine start_ (n := 12) (S := fun w' => w'.cell? (ad480.add (((ji37)).toNat * 3)) = some (.int .i64 ((rd_T25 t477 (ji37)).f0)) ∧ w'.cell? ⟨(ad480.add (((ji37)).toNat * 3)).block, (ad480.add (((ji37)).toNat * 3)).off + 1, none⟩ = some (.int .i64 ((rd_T25 t477 (ji37)).f1)) ∧ w'.cell? ⟨(ad480.add (((ji37)).toNat * 3)).block, (ad480.add (((ji37)).toNat * 3)).off + 2, none⟩ = some (.int .i64 ((rd_T25 t477 (ji37)).f2)) ∧ w'.cell? (ad480.add ((x10_1).toNat * 3)) = some (.int .i64 ((rd_T25 t477 x10_1).f0)) ∧ w'.cell? ⟨(ad480.add ((x10_1).toNat * 3)).block, (ad480.add ((x10_1).toNat * 3)).off + 1, none⟩ = some (.int .i64 ((rd_T25 t477 x10_1).f1)) ∧ w'.cell? ⟨(ad480.add ((x10_1).toNat * 3)).block, (ad480.add ((x10_1).toNat * 3)).off + 2, none⟩ = some (.int .i64 ((rd_T25 t477 x10_1).f2))) (ds := []) (bv_ 12 0) (by kernel_rfl) rfl rfl ⟨hx480_0, hx480_1, hx480_2, hx481_0, hx481_1, hx481_2⟩ (fun hHeld => ?_); refine with_tabW impl_PlaceOfBall.tab9 impl_PlaceOfBall.bits9 (fun HT_ HW_ => ?_)
    generalize wr.drew = w62 at HO_8 BK470 BK471 HB hx480_0 hx480_1 hx480_2 hx481_0 hx481_1 hx481_2 hHeld ⊢
    refine px_ HT_ 0 35 1 ?_
    refine px_ HT_ 1 36 3 ?_
    refine px_ HT_ 2 37 7 ?_
    refine px_ HT_ 3 38 15 ?_
    refine px_ HT_ 4 39 31 ?_
    refine px_ HT_ 6 41 95 ?_
    refine px_ HT_ 7 42 223 ?_
    refine px_ HT_ 8 43 479 ?_
    refine ta_ HT_ HW_ 5 (some 40) (bv_ 12 511) hHeld ?_ (hy := by rintro w' ⟨s0, s1, s2, s3, s4, s5⟩; go_simp; with_reducible rfl)
    refine ta_ HT_ HW_ 9 (some 44) (bv_ 12 1023) hHeld ?_ (hy := by rintro w' ⟨s0, s1, s2, s3, s4, s5⟩; go_simp; with_reducible rfl)
    refine on_ HT_ 10 (some 45) (bv_ 12 2047) (fun K hK => ?_)
    refine gs_ Try.func116 #[.int .i64 a0, .agg #[.int .i64 ((rd_T25 t477 (ji37)).f0), .int .i64 ((rd_T25 t477 (ji37)).f1), .int .i64 ((rd_T25 t477 (ji37)).f2)], .agg #[.int .i64 ((rd_T25 t477 x10_1).f0), .int .i64 ((rd_T25 t477 x10_1).f1), .int .i64 ((rd_T25 t477 x10_1).f2)]] ?_ (hargs := by (try simp only [List.map_toArray, List.map_cons, List.map_nil]); first | done | (simp only [hji37]; rfl) | rfl | (simp only [List.length_drop, List.length_take]; rfl))
    with_reducible refine (impl_toward.calls k1 a0 ((rd_T25 t477 (ji37)).f0) ((rd_T25 t477 (ji37)).f1) ((rd_T25 t477 (ji37)).f2) ((rd_T25 t477 x10_1).f0) ((rd_T25 t477 x10_1).f1) ((rd_T25 t477 x10_1).f2) t482 _ A41.out).mono ?_
    rintro e w63 ⟨rfl, hb⟩
    have HS0_ := (hb.cell (World.block_lt_of_cell? _ _ (hHeld.1))).trans (hHeld.1)
    have HS1_ := (hb.cell (World.block_lt_of_cell? _ _ (hHeld.2.1))).trans (hHeld.2.1)
    have HS2_ := (hb.cell (World.block_lt_of_cell? _ _ (hHeld.2.2.1))).trans (hHeld.2.2.1)
    have HS3_ := (hb.cell (World.block_lt_of_cell? _ _ (hHeld.2.2.2.1))).trans (hHeld.2.2.2.1)
    have HS4_ := (hb.cell (World.block_lt_of_cell? _ _ (hHeld.2.2.2.2.1))).trans (hHeld.2.2.2.2.1)
    have HS5_ := (hb.cell (World.block_lt_of_cell? _ _ (hHeld.2.2.2.2.2))).trans (hHeld.2.2.2.2.2)
    refine ⟨_, rfl, ?_⟩
    replace HO_8 := rb_ HO_8 hb
    replace BK470 := bb_ BK470 hb
    replace BK471 := bb_ BK471 hb
    replace HB := bt_ HB hb
    try clear hb
    refine hK.out _ _ ⟨HS0_, HS1_, HS2_, HS3_, HS4_, HS5_⟩ (fun hHeld => ?_)
    clear hK K
    refine nm_ (some 45) ?_
    refine px_ HT_ 11 11 4095 ?_
    refine done_ (done_of HT_.out (by kernel_rfl)) ?_
    try go_wp2
    replace HO_8 := Aside0.mk (Kd.R_drew HO_8.out)
    replace BK470 := bd_ BK470
    replace BK471 := bd_ BK471
    replace HB := be_ HB
    refine start_ (n := 18) (S := fun w' => True) (ds := []) (bv_ 18 0) (by kernel_rfl) rfl rfl trivial (fun hHeld => ?_); refine with_tabW impl_PlaceOfBall.tab10 impl_PlaceOfBall.bits10 (fun HT_ HW_ => ?_)
    generalize w63.drew = w64 at HO_8 BK470 BK471 HB hHeld ⊢
    refine px_ HT_ 0 46 1 ?_
    refine px_ HT_ 1 47 3 ?_
    refine px_ HT_ 2 48 7 ?_
    refine pv_ HT_ 3 (some 49) (bv_ 18 15) ?_
    refine pv_ HT_ 4 (some 50) (bv_ 18 31) ?_
    refine pv_ HT_ 5 (some 51) (bv_ 18 63) ?_
    refine pv_ HT_ 6 (some 52) (bv_ 18 127) ?_
    refine pv_ HT_ 7 (some 53) (bv_ 18 255) ?_
    refine pv_ HT_ 8 (some 54) (bv_ 18 511) ?_
    refine pv_ HT_ 9 (some 55) (bv_ 18 1023) ?_
    refine pv_ HT_ 10 (some 56) (bv_ 18 2047) ?_
    refine pv_ HT_ 11 (some 57) (bv_ 18 4095) ?_
    refine pv_ HT_ 12 (some 58) (bv_ 18 8191) ?_
    refine pv_ HT_ 13 (some 59) (bv_ 18 16383) ?_
    refine pv_ HT_ 14 (some 60) (bv_ 18 32767) ?_
    refine pv_ HT_ 15 (some 61) (bv_ 18 65535) ?_
    refine pv_ HT_ 16 (some 62) (bv_ 18 131071) ?_
    refine px_ HT_ 17 63 262143 ?_
    refine done_ (done_of HT_.out (by kernel_rfl)) ?_
    try go_wp2_with (first | ((refine gc_ 117 ?_); refine ge_ 68 Try.func117 #[.int .i64 a0, .int .i64 x9_1] ?_; (with_reducible refine (impl_firstChild.calls a0 x9_1 t488 _ A60.out).mono ?_); rintro e w' ⟨rfl, ⟨nd, rfl⟩⟩; refine ⟨_, rfl, ?_⟩))
    go_roundg k1
    case measure => have := HK1.out; omega
    case rel => exact ⟨(wrap64 (t488 + t482)), (wrap64 (x10_1 + 1)), en_, en_, H', ⟨by have := HK1.out; omega⟩, ⟨by (with_reducible repeat (first | apply Kd.R_alloc | apply Kd.R_drewN | apply Kd.R_drew)); exact HO_8.out⟩, bl_ BK470, bl_ BK471, bw_ HB⟩
   simp only [Option.some.injEq, Prod.mk.injEq] at H
   obtain ⟨rfl, rfl⟩ := H
   obtain ⟨Ao65, co65, eo65⟩ := Kd.R_slice HO_8.out
   subst eo65
   go_wp2
   go_ret2
   exact ⟨es_, (bw_ HB).out⟩
 simp only [Option.some.injEq, Prod.mk.injEq] at H
 obtain ⟨rfl, rfl⟩ := H
 go_enter Try.func45, Try.ntmps45
 go_wp2_with (first | ((refine gd_ 4 ?_); refine by_ 4 #[.int .i64 a1_0, .int .i64 a1_1, .int .i64 a1_2] 25 HB ?_; intro gb470 hg w66 BK470 hb GW470 HB_; replace HB := HB_; clear hb hg) | ((refine gd_ 5 ?_); refine by_ 5 #[.int .i64 a2_0, .int .i64 a2_1, .int .i64 a2_2] 25 HB ?_; intro gb471 hg w67 BK471 hb GW471 HB_; have NB470_471 := bm_ BK470 hg; have NB471_470 := bn_ BK470 hg; replace BK470 := bb_ BK470 hb; replace HB := HB_; clear hb hg; have hnb68 := NB470_471.out; have hnc68 := NB471_470.out; obtain ⟨hcz69_0, hcz69_1, hcz69_2, hfz69_0, hfz69_1, hfz69_2⟩ := ch3_ BK470; obtain ⟨hcz70_0, hcz70_1, hcz70_2, hfz70_0, hfz70_1, hfz70_2⟩ := ch3_ BK471) | ((refine gd_ 16 ?_); refine Kd.R_lit k25 _ 25 ?hg (N := 16) ?hd (xs := ([(⟨a1_0, a1_1, a1_2⟩ : S25), (⟨a2_0, a2_1, a2_2⟩ : S25)] : List (S25))) (inner := [.int .i64 a1_0, .int .i64 a1_1, .int .i64 a1_2, .int .i64 a2_0, .int .i64 a2_1, .int .i64 a2_2]) (ok := fun _ => True) (okp := fun _ => True) ?hr ?hp (fun _ hk => hk) trivial (Below.refl _ _) (Nat.le_refl _) (by simp) ?_; (case hd => rfl); (case hg => rfl); (case hr => first | (go_simp; done) | (go_simp; rfl)); (case hp => exact (Reps.c3 (show Kd.M k25 _ _ _ (⟨a1_0, a1_1, a1_2⟩ : S25) [.int .i64 a1_0, .int .i64 a1_1, .int .i64 a1_2] from (k25_mkM _ _ _ (⟨a1_0, a1_1, a1_2⟩ : S25) )) (Reps.c3 (show Kd.M k25 _ _ _ (⟨a2_0, a2_1, a2_2⟩ : S25) [.int .i64 a2_0, .int .i64 a2_1, .int .i64 a2_2] from (k25_mkM _ _ _ (⟨a2_0, a2_1, a2_2⟩ : S25) )) (Reps.none _ _)))); intro v473 w71 ho72 hb hg_ hnew_; clear hg_ hnew_; (first | rw [← Ny472.out] at ho72 | (simp only [Int.reduceToNat] at ho72; rw [← Ny472.out] at ho72)); have HO474 := Aside0.mk (Kd.R_lower (Kd.R_newB (Kd.R_newB ho72 (g := gb470) (o := .cells #[.int .i64 a1_0, .int .i64 a1_1, .int .i64 a1_2] 25 (0, 0)) (bl_ BK470).out) (g := gb471) (o := .cells #[.int .i64 a2_0, .int .i64 a2_1, .int .i64 a2_2] 25 (0, 0)) (bl_ BK471).out) (below_size (bw_ HB).out)); replace BK470 := bb_ BK470 hb; replace BK471 := bb_ BK471 hb; replace HB := bt_ HB hb; clear hb ho72; obtain ⟨Ao73, co73, eo73⟩ := Kd.R_slice HO474.out; subst eo73) | ((refine gc_ 86 ?_); refine ge_ 17 Try.func86 #[.int .i64 a0, .slice Ao73 y472.length co73] ?_; (with_reducible refine (impl_areBalls.calls k a0 _ _ y472 false _ ?side1 ?side2 A4.out).mono ?_); (case side1 => exact ca_ (Kd.R_reads' HO474.out).2.2); (case side2 => exact (Kd.R_reads' HO474.out).2.1); rintro e w74 ⟨rfl, hb⟩; refine ⟨_, rfl, ?_⟩; replace HO474 := rb_ HO474 hb; replace BK470 := bb_ BK470 hb; replace BK471 := bb_ BK471 hb; replace HB := bt_ HB hb; (try clear hb)))
 go_ret2
 exact ⟨es_, (bw_ HB).out⟩
end Go.Proofs.Ytgoeelhiffbjlaa.QP
