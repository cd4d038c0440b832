import Derived.Test.YtgoeelhiffbjlaaQRx8
import Derived.Test.YtgoeelhiffbjlaaQRx37
import Derived.Test.YtgoeelhiffbjlaaQRx68
import Derived.Test.YtgoeelhiffbjlaaQRx61
namespace Go.Proofs.Ytgoeelhiffbjlaa.QR
set_option maxHeartbeats 8000000
set_option maxRecDepth 100000
open Go.RowKit Go.Proofs.YtgoeelhiffbjlaaW.PrintWords Go.Proofs.YtgoeelhiffbjlaaW.PrintLast Go.Proofs.YtgoeelhiffbjlaaW.PrintMore
attribute [local go_sem] isSome_setCell max2_int min2_int max_two min_two max_three min_three max_four min_four
set_option linter.unusedVariables false
set_option linter.unusedSimpArgs false

/-! ### spec_WayWord: function 18 -/
def spec_WayWord.f (k : Nat) (a0 : Int) (a1_0 : Int) (a1_1 : Int) (a1_2 : Int) (a2_0 : Int) (a2_1 : Int) (a2_2 : Int) : Option (ByteArray × Int) := (spec_l01Code.f k a0 (([(⟨a1_0, a1_1, a1_2⟩ : S25), (⟨a2_0, a2_1, a2_2⟩ : S25)] : List (S25)))).bind fun t646 => (if t646 = 0 then ((spec_l10Way.f k a0 a1_0 a1_1 a1_2 a2_0 a2_1 a2_2).bind fun bt647 => (if bt647.2 = true then (some (bt647.1, 0)) else (some ((⟨#[]⟩ : ByteArray), 3)))) else (some ((⟨#[]⟩ : ByteArray), t646)))
theorem spec_WayWord.calls (k : Nat) (a0 : Int) (a1_0 : Int) (a1_1 : Int) (a1_2 : Int) (a2_0 : Int) (a2_1 : Int) (a2_2 : Int) (r1 : ByteArray) (r2 : Int) (w : World) (h : spec_WayWord.f k a0 a1_0 a1_1 a1_2 a2_0 a2_1 a2_2 = some (r1, r2)) :
  Calls Try.prog 18 #[.int .i64 a0, .agg #[.int .i64 a1_0, .int .i64 a1_1, .int .i64 a1_2], .agg #[.int .i64 a2_0, .int .i64 a2_1, .int .i64 a2_2]] w fun e w' => e = .returned (.tuple #[.string r1, .int .i64 r2]) ∧ Below w.heap.size w w' := by
 have hu25 := Try.underlying25
 have HB := Aside0.mk (Below.refl w.heap.size w)
 have H : ((spec_l01Code.f k a0 (([(⟨a1_0, a1_1, a1_2⟩ : S25), (⟨a2_0, a2_1, a2_2⟩ : S25)] : List (S25)))).bind fun t646 => (if t646 = 0 then ((spec_l10Way.f k a0 a1_0 a1_1 a1_2 a2_0 a2_1 a2_2).bind fun bt647 => (if bt647.2 = true then (some (bt647.1, 0)) else (some ((⟨#[]⟩ : ByteArray), 3)))) else (some ((⟨#[]⟩ : ByteArray), t646)))) = some (r1, r2) := h
 clear h
 obtain ⟨y643, hy643⟩ : ∃ y_ : List (S25), y_ = (([(⟨a1_0, a1_1, a1_2⟩ : S25), (⟨a2_0, a2_1, a2_2⟩ : S25)] : List (S25))) := ⟨_, rfl⟩
 replace H : ((spec_l01Code.f k a0 y643).bind fun t646 => (if t646 = 0 then ((spec_l10Way.f k a0 a1_0 a1_1 a1_2 a2_0 a2_1 a2_2).bind fun bt647 => (if bt647.2 = true then (some (bt647.1, 0)) else (some ((⟨#[]⟩ : ByteArray), 3)))) else (some ((⟨#[]⟩ : ByteArray), t646)))) = some (r1, r2) := by first | (rw [hy643]; with_reducible exact H) | (have H2_ := (Option.bind_some _ _).symm.trans H; rw [hy643]; with_reducible exact H2_) | (have H2_ := (Option.bind_some _ _).symm.trans H; with_reducible exact H2_) | with_reducible exact H | (rw [hy643]; exact H) | exact H
 have Ny643 := Aside0.mk hy643
 clear hy643
 replace H := ob_ H
 obtain ⟨t646, A40, H⟩ := H
 have A4 := Aside0.mk A40
 clear A40
 by_cases c5 : t646 = 0
 ·rw [if_pos c5] at H
  have c5b0 : (t646 == 0) = true := beq_iff_eq.mpr c5
  have c5b1 : (t646 != 0) = false := bne_eq_false_iff_eq.mpr c5
  clear c5
  replace H := ob_ H
  obtain ⟨⟨t647, t648⟩, A60, H⟩ := H
  have A6 := Aside0.mk A60
  clear A60
  by_cases c7 : t648 = true
  ·subst c7
   have H1 : (some (t647, 0)) = some (r1, r2) := by rw [if_pos rfl] at H; exact H
   clear H
   have H := H1
   clear H1
   simp only [Option.some.injEq, Prod.mk.injEq] at H
   obtain ⟨rfl, rfl⟩ := H
   go_enter Try.func18, Try.ntmps18
   go_wp2_with (first | ((refine gd_ 4 ?_); refine bx_ 4 #[.int .i64 a1_0, .int .i64 a1_1, .int .i64 a1_2] 25 ?_; intro gb641 hg w8 BK641 hb; have GW641 := bs_ HB hg; have GE641 := bs_ HB hg; replace HB := bt_ HB hb; clear hb hg) | ((refine gd_ 5 ?_); refine bx_ 5 #[.int .i64 a2_0, .int .i64 a2_1, .int .i64 a2_2] 25 ?_; intro gb642 hg w9 BK642 hb; have GW642 := bs_ HB hg; have GE642 := bs_ HB hg; have NB641_642 := bm_ BK641 hg; have NB642_641 := bn_ BK641 hg; replace BK641 := bb_ BK641 hb; replace HB := bt_ HB hb; clear hb hg; have hnb10 := NB641_642.out; have hnc10 := NB642_641.out; obtain ⟨hcz11_0, hcz11_1, hcz11_2, hfz11_0, hfz11_1, hfz11_2⟩ := ch3_ BK641; obtain ⟨hcz12_0, hcz12_1, hcz12_2, hfz12_0, hfz12_1, hfz12_2⟩ := ch3_ BK642) | ((refine gd_ 14 ?_); refine Kd.R_lit k25 _ 25 ?hg (N := 14) ?hd (xs := ([(⟨a1_0, a1_1, a1_2⟩ : S25), (⟨a2_0, a2_1, a2_2⟩ : S25)] : List (S25))) (inner := [.int .i64 a1_0, .int .i64 a1_1, .int .i64 a1_2, .int .i64 a2_0, .int .i64 a2_1, .int .i64 a2_2]) (ok := fun _ => True) (okp := fun _ => True) ?hr ?hp (fun _ hk => hk) trivial (Below.refl _ _) (Nat.le_refl _) (by simp) ?_; (case hd => rfl); (case hg => rfl); (case hr => first | (go_simp; done) | (go_simp; rfl)); (case hp => exact (Reps.c3 (show Kd.M k25 _ _ _ (⟨a1_0, a1_1, a1_2⟩ : S25) [.int .i64 a1_0, .int .i64 a1_1, .int .i64 a1_2] from (k25_mkM _ _ _ (⟨a1_0, a1_1, a1_2⟩ : S25) )) (Reps.c3 (show Kd.M k25 _ _ _ (⟨a2_0, a2_1, a2_2⟩ : S25) [.int .i64 a2_0, .int .i64 a2_1, .int .i64 a2_2] from (k25_mkM _ _ _ (⟨a2_0, a2_1, a2_2⟩ : S25) )) (Reps.none _ _)))); intro v644 w13 ho14 hb hg_ hnew_; clear hg_ hnew_; (first | rw [← Ny643.out] at ho14 | (simp only [Int.reduceToNat] at ho14; rw [← Ny643.out] at ho14)); have HO645 := Aside0.mk (Kd.R_lower (Kd.R_newB (Kd.R_newB ho14 (g := gb641) (o := .cells #[.int .i64 a1_0, .int .i64 a1_1, .int .i64 a1_2] 25 (0, 0)) (bl_ BK641).out) (g := gb642) (o := .cells #[.int .i64 a2_0, .int .i64 a2_1, .int .i64 a2_2] 25 (0, 0)) (bl_ BK642).out) (below_size (bw_ HB).out)); replace BK641 := bb_ BK641 hb; replace BK642 := bb_ BK642 hb; replace HB := bt_ HB hb; clear hb ho14; obtain ⟨Ao15, co15, eo15⟩ := Kd.R_slice HO645.out; subst eo15) | ((refine gc_ 88 ?_); refine ge_ 15 Try.func88 #[.int .i64 a0, .slice Ao15 y643.length co15] ?_; (with_reducible refine (spec_l01Code.calls k a0 _ _ y643 t646 _ ?side1 ?side2 A4.out).mono ?_); (case side1 => exact ca_ (Kd.R_reads' HO645.out).2.2); (case side2 => exact (Kd.R_reads' HO645.out).2.1); rintro e w16 ⟨rfl, hb⟩; refine ⟨_, rfl, ?_⟩; replace HO645 := rb_ HO645 hb; replace BK641 := bb_ BK641 hb; replace BK642 := bb_ BK642 hb; replace HB := bt_ HB hb; (try clear hb); obtain ⟨hcz17_0, hcz17_1, hcz17_2, hfz17_0, hfz17_1, hfz17_2⟩ := ch3_ BK641; obtain ⟨hcz18_0, hcz18_1, hcz18_2, hfz18_0, hfz18_1, hfz18_2⟩ := ch3_ BK642) | ((refine gc_ 89 ?_); refine ge_ 23 Try.func89 #[.int .i64 a0, .agg #[.int .i64 a1_0, .int .i64 a1_1, .int .i64 a1_2], .agg #[.int .i64 a2_0, .int .i64 a2_1, .int .i64 a2_2]] ?_; (with_reducible refine (spec_l10Way.calls k a0 a1_0 a1_1 a1_2 a2_0 a2_1 a2_2 t647 true _ A6.out).mono ?_); rintro e w19 ⟨rfl, hb⟩; refine ⟨_, rfl, ?_⟩; replace HO645 := rb_ HO645 hb; replace BK641 := bb_ BK641 hb; replace BK642 := bb_ BK642 hb; replace HB := bt_ HB hb; (try clear hb)))
   go_ret2
   exact ⟨es_, (bw_ HB).out⟩
  ·replace c7 := Bool.eq_false_iff.mpr c7
   subst c7
   have H1 : (some ((⟨#[]⟩ : ByteArray), 3)) = some (r1, r2) := by rw [if_neg (show ¬ (false = true) by decide)] at H; exact H
   clear H
   have H := H1
   clear H1
   simp only [Option.some.injEq, Prod.mk.injEq] at H
   obtain ⟨rfl, rfl⟩ := H
   go_enter Try.func18, Try.ntmps18
   go_wp2_with (first | ((refine gd_ 4 ?_); refine bx_ 4 #[.int .i64 a1_0, .int .i64 a1_1, .int .i64 a1_2] 25 ?_; intro gb641 hg w20 BK641 hb; have GW641 := bs_ HB hg; have GE641 := bs_ HB hg; replace HB := bt_ HB hb; clear hb hg) | ((refine gd_ 5 ?_); refine bx_ 5 #[.int .i64 a2_0, .int .i64 a2_1, .int .i64 a2_2] 25 ?_; intro gb642 hg w21 BK642 hb; have GW642 := bs_ HB hg; have GE642 := bs_ HB hg; have NB641_642 := bm_ BK641 hg; have NB642_641 := bn_ BK641 hg; replace BK641 := bb_ BK641 hb; replace HB := bt_ HB hb; clear hb hg; have hnb22 := NB641_642.out; have hnc22 := NB642_641.out; obtain ⟨hcz23_0, hcz23_1, hcz23_2, hfz23_0, hfz23_1, hfz23_2⟩ := ch3_ BK641; obtain ⟨hcz24_0, hcz24_1, hcz24_2, hfz24_0, hfz24_1, hfz24_2⟩ := ch3_ BK642) | ((refine gd_ 14 ?_); refine Kd.R_lit k25 _ 25 ?hg (N := 14) ?hd (xs := ([(⟨a1_0, a1_1, a1_2⟩ : S25), (⟨a2_0, a2_1, a2_2⟩ : S25)] : List (S25))) (inner := [.int .i64 a1_0, .int .i64 a1_1, .int .i64 a1_2, .int .i64 a2_0, .int .i64 a2_1, .int .i64 a2_2]) (ok := fun _ => True) (okp := fun _ => True) ?hr ?hp (fun _ hk => hk) trivial (Below.refl _ _) (Nat.le_refl _) (by simp) ?_; (case hd => rfl); (case hg => rfl); (case hr => first | (go_simp; done) | (go_simp; rfl)); (case hp => exact (Reps.c3 (show Kd.M k25 _ _ _ (⟨a1_0, a1_1, a1_2⟩ : S25) [.int .i64 a1_0, .int .i64 a1_1, .int .i64 a1_2] from (k25_mkM _ _ _ (⟨a1_0, a1_1, a1_2⟩ : S25) )) (Reps.c3 (show Kd.M k25 _ _ _ (⟨a2_0, a2_1, a2_2⟩ : S25) [.int .i64 a2_0, .int .i64 a2_1, .int .i64 a2_2] from (k25_mkM _ _ _ (⟨a2_0, a2_1, a2_2⟩ : S25) )) (Reps.none _ _)))); intro v644 w25 ho26 hb hg_ hnew_; clear hg_ hnew_; (first | rw [← Ny643.out] at ho26 | (simp only [Int.reduceToNat] at ho26; rw [← Ny643.out] at ho26)); have HO645 := Aside0.mk (Kd.R_lower (Kd.R_newB (Kd.R_newB ho26 (g := gb641) (o := .cells #[.int .i64 a1_0, .int .i64 a1_1, .int .i64 a1_2] 25 (0, 0)) (bl_ BK641).out) (g := gb642) (o := .cells #[.int .i64 a2_0, .int .i64 a2_1, .int .i64 a2_2] 25 (0, 0)) (bl_ BK642).out) (below_size (bw_ HB).out)); replace BK641 := bb_ BK641 hb; replace BK642 := bb_ BK642 hb; replace HB := bt_ HB hb; clear hb ho26; obtain ⟨Ao27, co27, eo27⟩ := Kd.R_slice HO645.out; subst eo27) | ((refine gc_ 88 ?_); refine ge_ 15 Try.func88 #[.int .i64 a0, .slice Ao27 y643.length co27] ?_; (with_reducible refine (spec_l01Code.calls k a0 _ _ y643 t646 _ ?side1 ?side2 A4.out).mono ?_); (case side1 => exact ca_ (Kd.R_reads' HO645.out).2.2); (case side2 => exact (Kd.R_reads' HO645.out).2.1); rintro e w28 ⟨rfl, hb⟩; refine ⟨_, rfl, ?_⟩; replace HO645 := rb_ HO645 hb; replace BK641 := bb_ BK641 hb; replace BK642 := bb_ BK642 hb; replace HB := bt_ HB hb; (try clear hb); obtain ⟨hcz29_0, hcz29_1, hcz29_2, hfz29_0, hfz29_1, hfz29_2⟩ := ch3_ BK641; obtain ⟨hcz30_0, hcz30_1, hcz30_2, hfz30_0, hfz30_1, hfz30_2⟩ := ch3_ BK642) | ((refine gc_ 89 ?_); refine ge_ 23 Try.func89 #[.int .i64 a0, .agg #[.int .i64 a1_0, .int .i64 a1_1, .int .i64 a1_2], .agg #[.int .i64 a2_0, .int .i64 a2_1, .int .i64 a2_2]] ?_; (with_reducible refine (spec_l10Way.calls k a0 a1_0 a1_1 a1_2 a2_0 a2_1 a2_2 t647 false _ A6.out).mono ?_); rintro e w31 ⟨rfl, hb⟩; refine ⟨_, rfl, ?_⟩; replace HO645 := rb_ HO645 hb; replace BK641 := bb_ BK641 hb; replace BK642 := bb_ BK642 hb; replace HB := bt_ HB hb; (try clear hb)))
   go_ret2
   exact ⟨es_, (bw_ HB).out⟩
 ·rw [if_neg c5] at H
  have c5b0 : (t646 == 0) = false := beq_eq_false_iff_ne.mpr c5
  have c5b1 : (t646 != 0) = true := bne_iff_ne.mpr c5
  simp only [Option.some.injEq, Prod.mk.injEq] at H
  obtain ⟨rfl, rfl⟩ := H
  go_enter Try.func18, Try.ntmps18
  go_wp2_with (first | ((refine gd_ 4 ?_); refine bx_ 4 #[.int .i64 a1_0, .int .i64 a1_1, .int .i64 a1_2] 25 ?_; intro gb641 hg w32 BK641 hb; have GW641 := bs_ HB hg; have GE641 := bs_ HB hg; replace HB := bt_ HB hb; clear hb hg) | ((refine gd_ 5 ?_); refine bx_ 5 #[.int .i64 a2_0, .int .i64 a2_1, .int .i64 a2_2] 25 ?_; intro gb642 hg w33 BK642 hb; have GW642 := bs_ HB hg; have GE642 := bs_ HB hg; have NB641_642 := bm_ BK641 hg; have NB642_641 := bn_ BK641 hg; replace BK641 := bb_ BK641 hb; replace HB := bt_ HB hb; clear hb hg; have hnb34 := NB641_642.out; have hnc34 := NB642_641.out; obtain ⟨hcz35_0, hcz35_1, hcz35_2, hfz35_0, hfz35_1, hfz35_2⟩ := ch3_ BK641; obtain ⟨hcz36_0, hcz36_1, hcz36_2, hfz36_0, hfz36_1, hfz36_2⟩ := ch3_ BK642) | ((refine gd_ 14 ?_); refine Kd.R_lit k25 _ 25 ?hg (N := 14) ?hd (xs := ([(⟨a1_0, a1_1, a1_2⟩ : S25), (⟨a2_0, a2_1, a2_2⟩ : S25)] : List (S25))) (inner := [.int .i64 a1_0, .int .i64 a1_1, .int .i64 a1_2, .int .i64 a2_0, .int .i64 a2_1, .int .i64 a2_2]) (ok := fun _ => True) (okp := fun _ => True) ?hr ?hp (fun _ hk => hk) trivial (Below.refl _ _) (Nat.le_refl _) (by simp) ?_; (case hd => rfl); (case hg => rfl); (case hr => first | (go_simp; done) | (go_simp; rfl)); (case hp => exact (Reps.c3 (show Kd.M k25 _ _ _ (⟨a1_0, a1_1, a1_2⟩ : S25) [.int .i64 a1_0, .int .i64 a1_1, .int .i64 a1_2] from (k25_mkM _ _ _ (⟨a1_0, a1_1, a1_2⟩ : S25) )) (Reps.c3 (show Kd.M k25 _ _ _ (⟨a2_0, a2_1, a2_2⟩ : S25) [.int .i64 a2_0, .int .i64 a2_1, .int .i64 a2_2] from (k25_mkM _ _ _ (⟨a2_0, a2_1, a2_2⟩ : S25) )) (Reps.none _ _)))); intro v644 w37 ho38 hb hg_ hnew_; clear hg_ hnew_; (first | rw [← Ny643.out] at ho38 | (simp only [Int.reduceToNat] at ho38; rw [← Ny643.out] at ho38)); have HO645 := Aside0.mk (Kd.R_lower (Kd.R_newB (Kd.R_newB ho38 (g := gb641) (o := .cells #[.int .i64 a1_0, .int .i64 a1_1, .int .i64 a1_2] 25 (0, 0)) (bl_ BK641).out) (g := gb642) (o := .cells #[.int .i64 a2_0, .int .i64 a2_1, .int .i64 a2_2] 25 (0, 0)) (bl_ BK642).out) (below_size (bw_ HB).out)); replace BK641 := bb_ BK641 hb; replace BK642 := bb_ BK642 hb; replace HB := bt_ HB hb; clear hb ho38; obtain ⟨Ao39, co39, eo39⟩ := Kd.R_slice HO645.out; subst eo39) | ((refine gc_ 88 ?_); refine ge_ 15 Try.func88 #[.int .i64 a0, .slice Ao39 y643.length co39] ?_; (with_reducible refine (spec_l01Code.calls k a0 _ _ y643 t646 _ ?side1 ?side2 A4.out).mono ?_); (case side1 => exact ca_ (Kd.R_reads' HO645.out).2.2); (case side2 => exact (Kd.R_reads' HO645.out).2.1); rintro e w40 ⟨rfl, hb⟩; refine ⟨_, rfl, ?_⟩; replace HO645 := rb_ HO645 hb; replace BK641 := bb_ BK641 hb; replace BK642 := bb_ BK642 hb; replace HB := bt_ HB hb; (try clear hb)))
  go_ret2
  exact ⟨es_, (bw_ HB).out⟩
/-! ### impl_distance: function 90 -/
def impl_distance.f (k : Nat) (a0 : Int) (a1_0 : Int) (a1_1 : Int) (a1_2 : Int) (a2_0 : Int) (a2_1 : Int) (a2_2 : Int) : Option (Int) := (impl_joinLevel.f k a0 a1_0 a1_1 a1_2 a2_0 a2_1 a2_2).bind fun t651 => (some (wrap64 ((wrap64 (a1_0 + a2_0)) - (wrap64 (2 * t651)))))
def impl_distance.T1 : Bool × List (List Nat × List Nat) := (true, [([], []), ([0], [0]), ([], []), ([2], [2]), ([1, 3], [1, 3]), ([], []), ([], []), ([], []), ([5, 6, 7], [5, 6, 7]), ([8], [8]), ([4, 9], [4, 9]), ([10, 8, 0, 1, 2, 3, 4, 5, 6, 7, 8, 9, 10], [10])])
def impl_distance.B1 : List Nat := [0, 1, 0, 4, 15, 0, 0, 0, 224, 480, 1023, 2047]
theorem impl_distance.tab1 : rtab .any (opsOf Try.f90 1) = impl_distance.T1 := by kernel_rfl
theorem impl_distance.bits1 : waitsOk impl_distance.T1.2 impl_distance.B1 = true := by kernel_rfl
theorem impl_distance.calls (k : Nat) (a0 : Int) (a1_0 : Int) (a1_1 : Int) (a1_2 : Int) (a2_0 : Int) (a2_1 : Int) (a2_2 : Int) (r : Int) (w : World) (h : impl_distance.f k a0 a1_0 a1_1 a1_2 a2_0 a2_1 a2_2 = some r) :
  Calls Try.prog 90 #[.int .i64 a0, .agg #[.int .i64 a1_0, .int .i64 a1_1, .int .i64 a1_2], .agg #[.int .i64 a2_0, .int .i64 a2_1, .int .i64 a2_2]] w fun e w' => e = .returned (.int .i64 r) ∧ Below w.heap.size w w' := by
 have hu25 := Try.underlying25
 have HB := Aside0.mk (Below.refl w.heap.size w)
 have H : ((impl_joinLevel.f k a0 a1_0 a1_1 a1_2 a2_0 a2_1 a2_2).bind fun t651 => (some (wrap64 ((wrap64 (a1_0 + a2_0)) - (wrap64 (2 * t651)))))) = some r := h
 clear h
 replace H := ob_ H
 obtain ⟨t651, A40, H⟩ := H
 have A4 := Aside0.mk A40
 clear A40
 obtain rfl := si_ H
 go_enter Try.func90, Try.ntmps90
 try go_wp2_with (first | ((refine gd_ 4 ?_); refine bx_ 4 #[.int .i64 a1_0, .int .i64 a1_1, .int .i64 a1_2] 25 ?_; intro gb649 hg w5 BK649 hb; have GW649 := bs_ HB hg; have GE649 := bs_ HB hg; replace HB := bt_ HB hb; clear hb hg) | ((refine gd_ 5 ?_); refine bx_ 5 #[.int .i64 a2_0, .int .i64 a2_1, .int .i64 a2_2] 25 ?_; intro gb650 hg w6 BK650 hb; have GW650 := bs_ HB hg; have GE650 := bs_ HB hg; have NB649_650 := bm_ BK649 hg; have NB650_649 := bn_ BK649 hg; replace BK649 := bb_ BK649 hb; replace HB := bt_ HB hb; clear hb hg))
 replace BK649 := Aside0.mk (blk_drew BK649.out)
 replace BK650 := Aside0.mk (blk_drew BK650.out)
 replace HB := Aside0.mk (below_drew1 HB.out)
 refine start_ (n := 12) (S := fun w' => w'.cell? ⟨gb649, 0, none⟩ = some (.int .i64 a1_0) ∧ w'.cell? ⟨gb649, 1, none⟩ = some (.int .i64 a1_1) ∧ w'.cell? ⟨gb649, 2, none⟩ = some (.int .i64 a1_2) ∧ w'.cell? ⟨gb650, 0, none⟩ = some (.int .i64 a2_0) ∧ w'.cell? ⟨gb650, 1, none⟩ = some (.int .i64 a2_1) ∧ w'.cell? ⟨gb650, 2, none⟩ = some (.int .i64 a2_2)) (ds := []) (bv_ 12 0) (by kernel_rfl) rfl rfl ⟨cz_ BK649 0, cz_ BK649 1, cz_ BK649 2, cz_ BK650 0, cz_ BK650 1, cz_ BK650 2⟩ (fun hHeld => ?_); refine with_tabW impl_distance.tab1 impl_distance.bits1 (fun HT_ HW_ => ?_)
 generalize w6.drew = w7 at BK649 BK650 HB hHeld ⊢
 refine px_ HT_ 0 7 1 ?_
 refine px_ HT_ 2 9 5 ?_
 refine px_ HT_ 5 12 37 ?_
 refine ta_ HT_ HW_ 1 (some 8) (bv_ 12 39) hHeld ?_ (hy := by rintro w' ⟨s0, s1, s2, s3, s4, s5⟩; go_simp; with_reducible rfl)
 refine ta_ HT_ HW_ 3 (some 10) (bv_ 12 47) hHeld ?_ (hy := by rintro w' ⟨s0, s1, s2, s3, s4, s5⟩; go_simp; with_reducible rfl)
 refine px_ HT_ 4 11 63 ?_
 refine ta_ HT_ HW_ 6 (some 13) (bv_ 12 127) hHeld ?_ (hy := by rintro w' ⟨s0, s1, s2, s3, s4, s5⟩; go_simp; with_reducible rfl)
 refine ta_ HT_ HW_ 7 (some 14) (bv_ 12 255) hHeld ?_ (hy := by rintro w' ⟨s0, s1, s2, s3, s4, s5⟩; go_simp; with_reducible rfl)
 refine on_ HT_ 8 (some 15) (bv_ 12 511) (fun K hK => ?_)
 refine gs_ Try.func159 #[.int .i64 a0, .agg #[.int .i64 a1_0, .int .i64 a1_1, .int .i64 a1_2], .agg #[.int .i64 a2_0, .int .i64 a2_1, .int .i64 a2_2]] ?_
 with_reducible refine (impl_joinLevel.calls k a0 a1_0 a1_1 a1_2 a2_0 a2_1 a2_2 t651 _ A4.out).mono ?_
 rintro e w8 ⟨rfl, hb⟩
 refine ⟨_, rfl, ?_⟩
 replace BK649 := bb_ BK649 hb
 replace BK650 := bb_ BK650 hb
 replace HB := bt_ HB hb
 (try clear hb)
 (try clear hb2)
 (try clear hk)
 (try clear hi)
 refine hK.out _ _ ⟨cz_ BK649 0, cz_ BK649 1, cz_ BK649 2, cz_ BK650 0, cz_ BK650 1, cz_ BK650 2⟩ (fun hHeld => ?_)
 clear hK K
 refine nm_ (some 15) ?_
 refine px_ HT_ 9 16 1023 ?_
 refine px_ HT_ 10 17 2047 ?_
 refine px_ HT_ 11 6 4095 ?_
 refine done_ (done_of HT_.out (by kernel_rfl)) ?_
 try go_wp2
 go_ret
 exact ⟨es_, (bw_ HB).out⟩
/-! ### impl_TreeDistance: function 19 -/
def impl_TreeDistance.f (k : Nat) (a0 : Int) (a1_0 : Int) (a1_1 : Int) (a1_2 : Int) (a2_0 : Int) (a2_1 : Int) (a2_2 : Int) : Option (Int × Int) := (impl_areBalls.f k a0 (([(⟨a1_0, a1_1, a1_2⟩ : S25), (⟨a2_0, a2_1, a2_2⟩ : S25)] : List (S25)))).bind fun t657 => (if t657 = true then ((impl_distance.f k a0 a1_0 a1_1 a1_2 a2_0 a2_1 a2_2).bind fun t658 => (some (t658, 0))) else (some (0, 1)))
theorem impl_TreeDistance.calls (k : Nat) (a0 : Int) (a1_0 : Int) (a1_1 : Int) (a1_2 : Int) (a2_0 : Int) (a2_1 : Int) (a2_2 : Int) (r1 : Int) (r2 : Int) (w : World) (h : impl_TreeDistance.f k a0 a1_0 a1_1 a1_2 a2_0 a2_1 a2_2 = some (r1, r2)) :
  Calls Try.prog 19 #[.int .i64 a0, .agg #[.int .i64 a1_0, .int .i64 a1_1, .int .i64 a1_2], .agg #[.int .i64 a2_0, .int .i64 a2_1, .int .i64 a2_2]] w fun e w' => e = .returned (.tuple #[.int .i64 r1, .int .i64 r2]) ∧ Below w.heap.size w w' := by
 have hu25 := Try.underlying25
 have HB := Aside0.mk (Below.refl w.heap.size w)
 have H : ((impl_areBalls.f k a0 (([(⟨a1_0, a1_1, a1_2⟩ : S25), (⟨a2_0, a2_1, a2_2⟩ : S25)] : List (S25)))).bind fun t657 => (if t657 = true then ((impl_distance.f k a0 a1_0 a1_1 a1_2 a2_0 a2_1 a2_2).bind fun t658 => (some (t658, 0))) else (some (0, 1)))) = some (r1, r2) := h
 clear h
 obtain ⟨y654, hy654⟩ : ∃ y_ : List (S25), y_ = (([(⟨a1_0, a1_1, a1_2⟩ : S25), (⟨a2_0, a2_1, a2_2⟩ : S25)] : List (S25))) := ⟨_, rfl⟩
 replace H : ((impl_areBalls.f k a0 y654).bind fun t657 => (if t657 = true then ((impl_distance.f k a0 a1_0 a1_1 a1_2 a2_0 a2_1 a2_2).bind fun t658 => (some (t658, 0))) else (some (0, 1)))) = some (r1, r2) := by first | (rw [hy654]; with_reducible exact H) | (have H2_ := (Option.bind_some _ _).symm.trans H; rw [hy654]; with_reducible exact H2_) | (have H2_ := (Option.bind_some _ _).symm.trans H; with_reducible exact H2_) | with_reducible exact H | (rw [hy654]; exact H) | exact H
 have Ny654 := Aside0.mk hy654
 clear hy654
 replace H := ob_ H
 obtain ⟨t657, A40, H⟩ := H
 have A4 := Aside0.mk A40
 clear A40
 by_cases c5 : t657 = true
 ·subst c5
  have H1 : ((impl_distance.f k a0 a1_0 a1_1 a1_2 a2_0 a2_1 a2_2).bind fun t658 => (some (t658, 0))) = some (r1, r2) := by rw [if_pos rfl] at H; exact H
  clear H
  have H := H1
  clear H1
  replace H := ob_ H
  obtain ⟨t658, A60, H⟩ := H
  have A6 := Aside0.mk A60
  clear A60
  simp only [Option.some.injEq, Prod.mk.injEq] at H
  obtain ⟨rfl, rfl⟩ := H
  go_enter Try.func19, Try.ntmps19
  go_wp2_with (first | ((refine gd_ 4 ?_); refine bx_ 4 #[.int .i64 a1_0, .int .i64 a1_1, .int .i64 a1_2] 25 ?_; intro gb652 hg w7 BK652 hb; have GW652 := bs_ HB hg; have GE652 := bs_ HB hg; replace HB := bt_ HB hb; clear hb hg) | ((refine gd_ 5 ?_); refine bx_ 5 #[.int .i64 a2_0, .int .i64 a2_1, .int .i64 a2_2] 25 ?_; intro gb653 hg w8 BK653 hb; have GW653 := bs_ HB hg; have GE653 := bs_ HB hg; have NB652_653 := bm_ BK652 hg; have NB653_652 := bn_ BK652 hg; replace BK652 := bb_ BK652 hb; replace HB := bt_ HB hb; clear hb hg; have hnb9 := NB652_653.out; have hnc9 := NB653_652.out; obtain ⟨hcz10_0, hcz10_1, hcz10_2, hfz10_0, hfz10_1, hfz10_2⟩ := ch3_ BK652; obtain ⟨hcz11_0, hcz11_1, hcz11_2, hfz11_0, hfz11_1, hfz11_2⟩ := ch3_ BK653) | ((refine gd_ 11 ?_); refine Kd.R_lit k25 _ 25 ?hg (N := 11) ?hd (xs := ([(⟨a1_0, a1_1, a1_2⟩ : S25), (⟨a2_0, a2_1, a2_2⟩ : S25)] : List (S25))) (inner := [.int .i64 a1_0, .int .i64 a1_1, .int .i64 a1_2, .int .i64 a2_0, .int .i64 a2_1, .int .i64 a2_2]) (ok := fun _ => True) (okp := fun _ => True) ?hr ?hp (fun _ hk => hk) trivial (Below.refl _ _) (Nat.le_refl _) (by simp) ?_; (case hd => rfl); (case hg => rfl); (case hr => first | (go_simp; done) | (go_simp; rfl)); (case hp => exact (Reps.c3 (show Kd.M k25 _ _ _ (⟨a1_0, a1_1, a1_2⟩ : S25) [.int .i64 a1_0, .int .i64 a1_1, .int .i64 a1_2] from (k25_mkM _ _ _ (⟨a1_0, a1_1, a1_2⟩ : S25) )) (Reps.c3 (show Kd.M k25 _ _ _ (⟨a2_0, a2_1, a2_2⟩ : S25) [.int .i64 a2_0, .int .i64 a2_1, .int .i64 a2_2] from (k25_mkM _ _ _ (⟨a2_0, a2_1, a2_2⟩ : S25) )) (Reps.none _ _)))); intro v655 w12 ho13 hb hg_ hnew_; clear hg_ hnew_; (first | rw [← Ny654.out] at ho13 | (simp only [Int.reduceToNat] at ho13; rw [← Ny654.out] at ho13)); have HO656 := Aside0.mk (Kd.R_lower (Kd.R_newB (Kd.R_newB ho13 (g := gb652) (o := .cells #[.int .i64 a1_0, .int .i64 a1_1, .int .i64 a1_2] 25 (0, 0)) (bl_ BK652).out) (g := gb653) (o := .cells #[.int .i64 a2_0, .int .i64 a2_1, .int .i64 a2_2] 25 (0, 0)) (bl_ BK653).out) (below_size (bw_ HB).out)); replace BK652 := bb_ BK652 hb; replace BK653 := bb_ BK653 hb; replace HB := bt_ HB hb; clear hb ho13; obtain ⟨Ao14, co14, eo14⟩ := Kd.R_slice HO656.out; subst eo14) | ((refine gc_ 86 ?_); refine ge_ 12 Try.func86 #[.int .i64 a0, .slice Ao14 y654.length co14] ?_; (with_reducible refine (impl_areBalls.calls k a0 _ _ y654 true _ ?side1 ?side2 A4.out).mono ?_); (case side1 => exact ca_ (Kd.R_reads' HO656.out).2.2); (case side2 => exact (Kd.R_reads' HO656.out).2.1); rintro e w15 ⟨rfl, hb⟩; refine ⟨_, rfl, ?_⟩; replace HO656 := rb_ HO656 hb; replace BK652 := bb_ BK652 hb; replace BK653 := bb_ BK653 hb; replace HB := bt_ HB hb; (try clear hb); obtain ⟨hcz16_0, hcz16_1, hcz16_2, hfz16_0, hfz16_1, hfz16_2⟩ := ch3_ BK652; obtain ⟨hcz17_0, hcz17_1, hcz17_2, hfz17_0, hfz17_1, hfz17_2⟩ := ch3_ BK653) | ((refine gc_ 90 ?_); refine ge_ 17 Try.func90 #[.int .i64 a0, .agg #[.int .i64 a1_0, .int .i64 a1_1, .int .i64 a1_2], .agg #[.int .i64 a2_0, .int .i64 a2_1, .int .i64 a2_2]] ?_; (with_reducible refine (impl_distance.calls k a0 a1_0 a1_1 a1_2 a2_0 a2_1 a2_2 t658 _ A6.out).mono ?_); rintro e w18 ⟨rfl, hb⟩; refine ⟨_, rfl, ?_⟩; replace HO656 := rb_ HO656 hb; replace BK652 := bb_ BK652 hb; replace BK653 := bb_ BK653 hb; replace HB := bt_ HB hb; (try clear hb)))
  go_ret2
  exact ⟨es_, (bw_ HB).out⟩
 ·replace c5 := Bool.eq_false_iff.mpr c5
  subst c5
  have H1 : (some (0, 1)) = some (r1, r2) := by rw [if_neg (show ¬ (false = true) by decide)] at H; exact H
  clear H
  have H := H1
  clear H1
  simp only [Option.some.injEq, Prod.mk.injEq] at H
  obtain ⟨rfl, rfl⟩ := H
  go_enter Try.func19, Try.ntmps19
  go_wp2_with (first | ((refine gd_ 4 ?_); refine bx_ 4 #[.int .i64 a1_0, .int .i64 a1_1, .int .i64 a1_2] 25 ?_; intro gb652 hg w19 BK652 hb; have GW652 := bs_ HB hg; have GE652 := bs_ HB hg; replace HB := bt_ HB hb; clear hb hg) | ((refine gd_ 5 ?_); refine bx_ 5 #[.int .i64 a2_0, .int .i64 a2_1, .int .i64 a2_2] 25 ?_; intro gb653 hg w20 BK653 hb; have GW653 := bs_ HB hg; have GE653 := bs_ HB hg; have NB652_653 := bm_ BK652 hg; have NB653_652 := bn_ BK652 hg; replace BK652 := bb_ BK652 hb; replace HB := bt_ HB hb; clear hb hg; have hnb21 := NB652_653.out; have hnc21 := NB653_652.out; obtain ⟨hcz22_0, hcz22_1, hcz22_2, hfz22_0, hfz22_1, hfz22_2⟩ := ch3_ BK652; obtain ⟨hcz23_0, hcz23_1, hcz23_2, hfz23_0, hfz23_1, hfz23_2⟩ := ch3_ BK653) | ((refine gd_ 11 ?_); refine Kd.R_lit k25 _ 25 ?hg (N := 11) ?hd (xs := ([(⟨a1_0, a1_1, a1_2⟩ : S25), (⟨a2_0, a2_1, a2_2⟩ : S25)] : List (S25))) (inner := [.int .i64 a1_0, .int .i64 a1_1, .int .i64 a1_2, .int .i64 a2_0, .int .i64 a2_1, .int .i64 a2_2]) (ok := fun _ => True) (okp := fun _ => True) ?hr ?hp (fun _ hk => hk) trivial (Below.refl _ _) (Nat.le_refl _) (by simp) ?_; (case hd => rfl); (case hg => rfl); (case hr => first | (go_simp; done) | (go_simp; rfl)); (case hp => exact (Reps.c3 (show Kd.M k25 _ _ _ (⟨a1_0, a1_1, a1_2⟩ : S25) [.int .i64 a1_0, .int .i64 a1_1, .int .i64 a1_2] from (k25_mkM _ _ _ (⟨a1_0, a1_1, a1_2⟩ : S25) )) (Reps.c3 (show Kd.M k25 _ _ _ (⟨a2_0, a2_1, a2_2⟩ : S25) [.int .i64 a2_0, .int .i64 a2_1, .int .i64 a2_2] from (k25_mkM _ _ _ (⟨a2_0, a2_1, a2_2⟩ : S25) )) (Reps.none _ _)))); intro v655 w24 ho25 hb hg_ hnew_; clear hg_ hnew_; (first | rw [← Ny654.out] at ho25 | (simp only [Int.reduceToNat] at ho25; rw [← Ny654.out] at ho25)); have HO656 := Aside0.mk (Kd.R_lower (Kd.R_newB (Kd.R_newB ho25 (g := gb652) (o := .cells #[.int .i64 a1_0, .int .i64 a1_1, .int .i64 a1_2] 25 (0, 0)) (bl_ BK652).out) (g := gb653) (o := .cells #[.int .i64 a2_0, .int .i64 a2_1, .int .i64 a2_2] 25 (0, 0)) (bl_ BK653).out) (below_size (bw_ HB).out)); replace BK652 := bb_ BK652 hb; replace BK653 := bb_ BK653 hb; replace HB := bt_ HB hb; clear hb ho25; obtain ⟨Ao26, co26, eo26⟩ := Kd.R_slice HO656.out; subst eo26) | ((refine gc_ 86 ?_); refine ge_ 12 Try.func86 #[.int .i64 a0, .slice Ao26 y654.length co26] ?_; (with_reducible refine (impl_areBalls.calls k a0 _ _ y654 false _ ?side1 ?side2 A4.out).mono ?_); (case side1 => exact ca_ (Kd.R_reads' HO656.out).2.2); (case side2 => exact (Kd.R_reads' HO656.out).2.1); rintro e w27 ⟨rfl, hb⟩; refine ⟨_, rfl, ?_⟩; replace HO656 := rb_ HO656 hb; replace BK652 := bb_ BK652 hb; replace BK653 := bb_ BK653 hb; replace HB := bt_ HB hb; (try clear hb)))
  go_ret2
  exact ⟨es_, (bw_ HB).out⟩
end Go.Proofs.Ytgoeelhiffbjlaa.QR
