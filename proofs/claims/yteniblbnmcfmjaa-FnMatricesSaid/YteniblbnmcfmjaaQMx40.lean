import Derived.Test.YteniblbnmcfmjaaQMx6
import Derived.Test.YteniblbnmcfmjaaQMx14
import Derived.Test.YteniblbnmcfmjaaQMx26
import Derived.Test.YteniblbnmcfmjaaQMx20
import Derived.Test.YteniblbnmcfmjaaQMx21
namespace Go.Proofs.Yteniblbnmcfmjaa.QM
set_option maxHeartbeats 8000000
set_option maxRecDepth 100000
open Go.RowKit Go.Proofs.YteniblbnmcfmjaaW.PrintWords Go.Proofs.YteniblbnmcfmjaaW.PrintLast Go.Proofs.YteniblbnmcfmjaaW.PrintMore
attribute [local go_sem] isSome_setCell max2_int min2_int max_two min_two max_three min_three max_four min_four
set_option linter.unusedVariables false
set_option linter.unusedSimpArgs false

attribute [local go_sem high] eqA26
/-! ### impl_AreSameMatrices: function 20 -/
def impl_AreSameMatrices.f (k : Nat) (a0_0 a0_1 a0_2 a0_3 a1_0 a1_1 a1_2 a1_3 : Int) : Option (Bool × Int) := (impl_areMatrices.f k (([(⟨(⟨a0_0, a0_1⟩ : S24), (⟨a0_2, a0_3⟩ : S24)⟩ : S26), (⟨(⟨a1_0, a1_1⟩ : S24), (⟨a1_2, a1_3⟩ : S24)⟩ : S26)] : List (S26)))).bind fun t441 => (if t441 = true then ((impl_reduce.f k a0_0 a0_1 a0_2 a0_3).bind fun bt442 => ((impl_reduce.f k a1_0 a1_1 a1_2 a1_3).bind fun bt446 => (some (((bt442.1 == bt446.1 && (bt442.2.1 == bt446.2.1)) && ((bt442.2.2.1 == bt446.2.2.1 && (bt442.2.2.2 == bt446.2.2.2)))), 0)))) else (some (false, 1)))
theorem impl_AreSameMatrices.calls (k : Nat) (a0_0 a0_1 a0_2 a0_3 a1_0 a1_1 a1_2 a1_3 : Int) (r1 : Bool) (r2 : Int) (w : World) (h : impl_AreSameMatrices.f k a0_0 a0_1 a0_2 a0_3 a1_0 a1_1 a1_2 a1_3 = some (r1, r2)) :
  Calls Try.prog 20 #[.agg #[.int .i64 a0_0, .int .i64 a0_1, .int .i64 a0_2, .int .i64 a0_3], .agg #[.int .i64 a1_0, .int .i64 a1_1, .int .i64 a1_2, .int .i64 a1_3]] w fun e w' => e = .returned (.tuple #[.bool r1, .int .i64 r2]) ∧ Below w.heap.size w w' := by
 have hu26 := Try.underlying26
 have HB := Aside0.mk (Below.refl w.heap.size w)
 unfold impl_AreSameMatrices.f at h
 have H := h
 clear h
 obtain ⟨y438, hy438⟩ : ∃ y_ : List (S26), y_ = (([(⟨(⟨a0_0, a0_1⟩ : S24), (⟨a0_2, a0_3⟩ : S24)⟩ : S26), (⟨(⟨a1_0, a1_1⟩ : S24), (⟨a1_2, a1_3⟩ : S24)⟩ : S26)] : List (S26))) := ⟨_, rfl⟩
 replace H : ((impl_areMatrices.f k y438).bind fun t441 => (if t441 = true then ((impl_reduce.f k a0_0 a0_1 a0_2 a0_3).bind fun bt442 => ((impl_reduce.f k a1_0 a1_1 a1_2 a1_3).bind fun bt446 => (some (((bt442.1 == bt446.1 && (bt442.2.1 == bt446.2.1)) && ((bt442.2.2.1 == bt446.2.2.1 && (bt442.2.2.2 == bt446.2.2.2)))), 0)))) else (some (false, 1)))) = some (r1, r2) := by first | (rw [hy438]; with_reducible exact H) | (have H2_ := (Option.bind_some _ _).symm.trans H; rw [hy438]; with_reducible exact H2_) | (have H2_ := (Option.bind_some _ _).symm.trans H; with_reducible exact H2_) | with_reducible exact H | (rw [hy438]; exact H) | exact H
 have Ny438 := Aside0.mk hy438
 clear hy438
 replace H := oc_ H
 obtain ⟨t441, A3, H⟩ := H
 replace H := ib_ H
 rcases H with ⟨rfl, H⟩ | ⟨rfl, H⟩
 ·replace H := oc_ H
  obtain ⟨⟨t442, t443, t444, t445⟩, A5, H⟩ := H
  replace H := oc_ H
  obtain ⟨⟨t446, t447, t448, t449⟩, A6, H⟩ := H
  simp only [Option.some.injEq, Prod.mk.injEq] at H
  obtain ⟨rfl, rfl⟩ := H
  go_enter Try.func20, Try.ntmps20
  try go_wp2_with (first | ((refine gd_ 2 ?_); refine by_ 2 #[.int .i64 a0_0, .int .i64 a0_1, .int .i64 a0_2, .int .i64 a0_3] 26 HB ?_; intro gb436 hg w7 BK436 hb GW436 HB_; replace HB := HB_; clear hb hg) | ((refine gd_ 3 ?_); refine by_ 3 #[.int .i64 a1_0, .int .i64 a1_1, .int .i64 a1_2, .int .i64 a1_3] 26 HB ?_; intro gb437 hg w8 BK437 hb GW437 HB_; have NB436_437 := bm_ BK436 hg; have NB437_436 := bn_ BK436 hg; replace BK436 := bb_ BK436 hb; replace HB := HB_; clear hb hg; have hnb9 := NB436_437.out; have hnc9 := NB437_436.out; obtain ⟨hcz10_0, hcz10_1, hcz10_2, hcz10_3, hfz10_0, hfz10_1, hfz10_2, hfz10_3⟩ := ch4_ BK436; obtain ⟨hcz11_0, hcz11_1, hcz11_2, hcz11_3, hfz11_0, hfz11_1, hfz11_2, hfz11_3⟩ := ch4_ BK437) | ((refine gd_ 8 ?_); refine Kd.R_lit k26 _ 26 ?hg (N := 8) ?hd (xs := ([(⟨(⟨a0_0, a0_1⟩ : S24), (⟨a0_2, a0_3⟩ : S24)⟩ : S26), (⟨(⟨a1_0, a1_1⟩ : S24), (⟨a1_2, a1_3⟩ : S24)⟩ : S26)] : List (S26))) (inner := [.int .i64 a0_0, .int .i64 a0_1, .int .i64 a0_2, .int .i64 a0_3, .int .i64 a1_0, .int .i64 a1_1, .int .i64 a1_2, .int .i64 a1_3]) (ok := fun _ => True) (okp := fun _ => True) ?hr ?hp (fun _ hk => hk) trivial (Below.refl _ _) (Nat.le_refl _) (by simp) ?_; (case hd => rfl); (case hg => rfl); (case hr => first | (go_simp; done) | (go_simp; rfl)); (case hp => exact (Reps.c4 (show Kd.M k26 _ _ _ (⟨(⟨a0_0, a0_1⟩ : S24), (⟨a0_2, a0_3⟩ : S24)⟩ : S26) [.int .i64 a0_0, .int .i64 a0_1, .int .i64 a0_2, .int .i64 a0_3] from (k26_mkM _ _ _ (⟨(⟨a0_0, a0_1⟩ : S24), (⟨a0_2, a0_3⟩ : S24)⟩ : S26) )) (Reps.c4 (show Kd.M k26 _ _ _ (⟨(⟨a1_0, a1_1⟩ : S24), (⟨a1_2, a1_3⟩ : S24)⟩ : S26) [.int .i64 a1_0, .int .i64 a1_1, .int .i64 a1_2, .int .i64 a1_3] from (k26_mkM _ _ _ (⟨(⟨a1_0, a1_1⟩ : S24), (⟨a1_2, a1_3⟩ : S24)⟩ : S26) )) (Reps.none _ _)))); intro v439 w12 ho13 hb hg_ hnew_; clear hg_ hnew_; (first | rw [← Ny438.out] at ho13 | (simp only [Int.reduceToNat] at ho13; rw [← Ny438.out] at ho13)); have HO440 := Aside0.mk (Kd.R_lower (Kd.R_newB (Kd.R_newB ho13 (g := gb436) (o := .cells #[.int .i64 a0_0, .int .i64 a0_1, .int .i64 a0_2, .int .i64 a0_3] 26 (0, 0)) (bl_ BK436).out) (g := gb437) (o := .cells #[.int .i64 a1_0, .int .i64 a1_1, .int .i64 a1_2, .int .i64 a1_3] 26 (0, 0)) (bl_ BK437).out) (below_size (bw_ HB).out)); replace BK436 := bb_ BK436 hb; replace BK437 := bb_ BK437 hb; replace HB := bt_ HB hb; clear hb ho13; obtain ⟨Ao14, co14, eo14⟩ := Kd.R_slice HO440.out; subst eo14) | ((refine gc_ 24 ?_); refine ge_ 9 Try.func24 #[.slice Ao14 y438.length co14] ?_; (with_reducible refine (impl_areMatrices.calls k _ _ y438 true _ ?side1 ?side2 A3.out).mono ?_); (case side1 => exact ca_ (Kd.R_reads' HO440.out).2.2); (case side2 => exact (Kd.R_reads' HO440.out).2.1); rintro e w15 ⟨rfl, hb⟩; refine ⟨_, rfl, ?_⟩; replace HO440 := rb_ HO440 hb; replace BK436 := bb_ BK436 hb; replace BK437 := bb_ BK437 hb; replace HB := bt_ HB hb; (try clear hb)))
  replace HO440 := Aside0.mk (Kd.R_drew HO440.out)
  replace BK436 := bd_ BK436
  replace BK437 := bd_ BK437
  replace HB := be_ HB
  refine start_ (n := 7) (S := fun w' => w'.cell? ⟨gb436, 0, none⟩ = some (.int .i64 a0_0) ∧ w'.cell? ⟨gb436, 1, none⟩ = some (.int .i64 a0_1) ∧ w'.cell? ⟨gb436, 2, none⟩ = some (.int .i64 a0_2) ∧ w'.cell? ⟨gb436, 3, none⟩ = some (.int .i64 a0_3) ∧ w'.cell? ⟨gb437, 0, none⟩ = some (.int .i64 a1_0) ∧ w'.cell? ⟨gb437, 1, none⟩ = some (.int .i64 a1_1) ∧ w'.cell? ⟨gb437, 2, none⟩ = some (.int .i64 a1_2) ∧ w'.cell? ⟨gb437, 3, none⟩ = some (.int .i64 a1_3)) (ds := []) (bv_ 7 0) (by kernel_rfl) rfl rfl ⟨cz_ BK436 0, cz_ BK436 1, cz_ BK436 2, cz_ BK436 3, cz_ BK437 0, cz_ BK437 1, cz_ BK437 2, cz_ BK437 3⟩ (fun hHeld => ?_)
  generalize w15.drew = w16 at HO440 BK436 BK437 HB hHeld ⊢
  refine take_ (i := 0) (N := some 11) (v := ?_) (a' := ?_) (bv_ 7 1) rfl rfl (by kernel_rfl) (fun _ _ _ h => h) (Or.inl ⟨by rfl, ?_⟩) hHeld ?_ ?_
  rotate_left
  ·rintro w' ⟨s0, s1, s2, s3, s4, s5, s6, s7⟩
   go_simp
   with_reducible rfl
  rotate_left
  ·simp only [Act.put, lstS, lstZ, lstC, i64_w, i32_w]
   rfl
  refine take_ (i := 2) (N := some 13) (v := ?_) (a' := ?_) (bv_ 7 5) rfl rfl (by kernel_rfl) (fun _ _ _ h => h) (Or.inl ⟨by rfl, ?_⟩) hHeld ?_ ?_
  rotate_left
  ·rintro w' ⟨s0, s1, s2, s3, s4, s5, s6, s7⟩
   go_simp
   with_reducible rfl
  rotate_left
  ·simp only [Act.put, lstS, lstZ, lstC, i64_w, i32_w]
   rfl
  refine one_ (i := 1) (N := some 12) (bv_ 7 7) rfl rfl (by kernel_rfl) (by decide) (fun K hK => ?_)
  refine gs_ Try.func32 #[.agg #[.int .i64 a0_0, .int .i64 a0_1, .int .i64 a0_2, .int .i64 a0_3]] ?_
  with_reducible refine (impl_reduce.calls k a0_0 a0_1 a0_2 a0_3 t442 t443 t444 t445 _ A5.out).mono ?_
  rintro e w17 ⟨rfl, hb⟩
  refine ⟨_, rfl, ?_⟩
  replace HO440 := rb_ HO440 hb
  replace BK436 := bb_ BK436 hb
  replace BK437 := bb_ BK437 hb
  replace HB := bt_ HB hb
  try clear hb
  refine hK.out _ _ ⟨cz_ BK436 0, cz_ BK436 1, cz_ BK436 2, cz_ BK436 3, cz_ BK437 0, cz_ BK437 1, cz_ BK437 2, cz_ BK437 3⟩ (fun hHeld => ?_)
  clear hK K
  refine nm_ (some 12) ?_
  refine one_ (i := 3) (N := some 14) (bv_ 7 15) rfl rfl (by kernel_rfl) (by decide) (fun K hK => ?_)
  refine gs_ Try.func32 #[.agg #[.int .i64 a1_0, .int .i64 a1_1, .int .i64 a1_2, .int .i64 a1_3]] ?_
  with_reducible refine (impl_reduce.calls k a1_0 a1_1 a1_2 a1_3 t446 t447 t448 t449 _ A6.out).mono ?_
  rintro e w18 ⟨rfl, hb⟩
  refine ⟨_, rfl, ?_⟩
  replace HO440 := rb_ HO440 hb
  replace BK436 := bb_ BK436 hb
  replace BK437 := bb_ BK437 hb
  replace HB := bt_ HB hb
  try clear hb
  refine hK.out _ _ ⟨cz_ BK436 0, cz_ BK436 1, cz_ BK436 2, cz_ BK436 3, cz_ BK437 0, cz_ BK437 1, cz_ BK437 2, cz_ BK437 3⟩ (fun hHeld => ?_)
  clear hK K
  refine nm_ (some 14) ?_
  refine pure_ (i := 4) (N := some 15) (v := ?_) (a' := ?_) (bv_ 7 31) rfl rfl (by kernel_rfl) (fun _ _ _ h => h) (Or.inl ⟨by rfl, ?_⟩) ?_ ?_
  rotate_left
  ·intro w'
   go_simp
   with_reducible rfl
  rotate_left
  ·simp only [Act.put, lstS, lstZ, lstC, i64_w, i32_w]
   rfl
  refine pure_ (i := 5) (N := some 4) (v := ?_) (a' := ?_) (bv_ 7 63) rfl rfl (by kernel_rfl) (fun _ _ _ h => h) (Or.inl ⟨by rfl, ?_⟩) ?_ ?_
  rotate_left
  ·intro w'
   go_simp
   with_reducible rfl
  rotate_left
  ·simp only [Act.put, lstS, lstZ, lstC, i64_w, i32_w]
   rfl
  refine pure_ (i := 6) (N := some 5) (v := ?_) (a' := ?_) (bv_ 7 127) rfl rfl (by kernel_rfl) (fun _ _ _ h => h) (Or.inl ⟨by rfl, ?_⟩) ?_ ?_
  rotate_left
  ·intro w'
   go_simp
   with_reducible rfl
  rotate_left
  ·simp only [Act.put, lstS, lstZ, lstC, i64_w, i32_w]
   rfl
  refine done_ (by kernel_rfl) ?_
  try go_wp2
  go_ret2
  exact ⟨es_, (bw_ HB).out⟩
 simp only [Option.some.injEq, Prod.mk.injEq] at H
 obtain ⟨rfl, rfl⟩ := H
 go_enter Try.func20, Try.ntmps20
 go_wp2_with (first | ((refine gd_ 2 ?_); refine by_ 2 #[.int .i64 a0_0, .int .i64 a0_1, .int .i64 a0_2, .int .i64 a0_3] 26 HB ?_; intro gb436 hg w19 BK436 hb GW436 HB_; replace HB := HB_; clear hb hg) | ((refine gd_ 3 ?_); refine by_ 3 #[.int .i64 a1_0, .int .i64 a1_1, .int .i64 a1_2, .int .i64 a1_3] 26 HB ?_; intro gb437 hg w20 BK437 hb GW437 HB_; have NB436_437 := bm_ BK436 hg; have NB437_436 := bn_ BK436 hg; replace BK436 := bb_ BK436 hb; replace HB := HB_; clear hb hg; have hnb21 := NB436_437.out; have hnc21 := NB437_436.out; obtain ⟨hcz22_0, hcz22_1, hcz22_2, hcz22_3, hfz22_0, hfz22_1, hfz22_2, hfz22_3⟩ := ch4_ BK436; obtain ⟨hcz23_0, hcz23_1, hcz23_2, hcz23_3, hfz23_0, hfz23_1, hfz23_2, hfz23_3⟩ := ch4_ BK437) | ((refine gd_ 8 ?_); refine Kd.R_lit k26 _ 26 ?hg (N := 8) ?hd (xs := ([(⟨(⟨a0_0, a0_1⟩ : S24), (⟨a0_2, a0_3⟩ : S24)⟩ : S26), (⟨(⟨a1_0, a1_1⟩ : S24), (⟨a1_2, a1_3⟩ : S24)⟩ : S26)] : List (S26))) (inner := [.int .i64 a0_0, .int .i64 a0_1, .int .i64 a0_2, .int .i64 a0_3, .int .i64 a1_0, .int .i64 a1_1, .int .i64 a1_2, .int .i64 a1_3]) (ok := fun _ => True) (okp := fun _ => True) ?hr ?hp (fun _ hk => hk) trivial (Below.refl _ _) (Nat.le_refl _) (by simp) ?_; (case hd => rfl); (case hg => rfl); (case hr => first | (go_simp; done) | (go_simp; rfl)); (case hp => exact (Reps.c4 (show Kd.M k26 _ _ _ (⟨(⟨a0_0, a0_1⟩ : S24), (⟨a0_2, a0_3⟩ : S24)⟩ : S26) [.int .i64 a0_0, .int .i64 a0_1, .int .i64 a0_2, .int .i64 a0_3] from (k26_mkM _ _ _ (⟨(⟨a0_0, a0_1⟩ : S24), (⟨a0_2, a0_3⟩ : S24)⟩ : S26) )) (Reps.c4 (show Kd.M k26 _ _ _ (⟨(⟨a1_0, a1_1⟩ : S24), (⟨a1_2, a1_3⟩ : S24)⟩ : S26) [.int .i64 a1_0, .int .i64 a1_1, .int .i64 a1_2, .int .i64 a1_3] from (k26_mkM _ _ _ (⟨(⟨a1_0, a1_1⟩ : S24), (⟨a1_2, a1_3⟩ : S24)⟩ : S26) )) (Reps.none _ _)))); intro v439 w24 ho25 hb hg_ hnew_; clear hg_ hnew_; (first | rw [← Ny438.out] at ho25 | (simp only [Int.reduceToNat] at ho25; rw [← Ny438.out] at ho25)); have HO440 := Aside0.mk (Kd.R_lower (Kd.R_newB (Kd.R_newB ho25 (g := gb436) (o := .cells #[.int .i64 a0_0, .int .i64 a0_1, .int .i64 a0_2, .int .i64 a0_3] 26 (0, 0)) (bl_ BK436).out) (g := gb437) (o := .cells #[.int .i64 a1_0, .int .i64 a1_1, .int .i64 a1_2, .int .i64 a1_3] 26 (0, 0)) (bl_ BK437).out) (below_size (bw_ HB).out)); replace BK436 := bb_ BK436 hb; replace BK437 := bb_ BK437 hb; replace HB := bt_ HB hb; clear hb ho25; obtain ⟨Ao26, co26, eo26⟩ := Kd.R_slice HO440.out; subst eo26) | ((refine gc_ 24 ?_); refine ge_ 9 Try.func24 #[.slice Ao26 y438.length co26] ?_; (with_reducible refine (impl_areMatrices.calls k _ _ y438 false _ ?side1 ?side2 A3.out).mono ?_); (case side1 => exact ca_ (Kd.R_reads' HO440.out).2.2); (case side2 => exact (Kd.R_reads' HO440.out).2.1); rintro e w27 ⟨rfl, hb⟩; refine ⟨_, rfl, ?_⟩; replace HO440 := rb_ HO440 hb; replace BK436 := bb_ BK436 hb; replace BK437 := bb_ BK437 hb; replace HB := bt_ HB hb; (try clear hb)))
 go_ret2
 exact ⟨es_, (bw_ HB).out⟩
attribute [local go_sem high] eqA26
/-! ### spec_AreSameMatrices: function 21 -/
def spec_AreSameMatrices.j0 : Nat → Bool → Int → Int → Int → Int → Int → Int → Int → Int → Option (Bool × Int)
 | 0, _, _, _, _, _, _, _, _, _ => none
 | k + 1, x17, x451000, x451001, x451002, x451003, x452000, x452001, x452002, x452003 => if x17 = true then (some (false, 1)) else ((spec_l04Reduce.f k x451000 x451001 x451002 x451003).bind fun bt454 => ((spec_l04Reduce.f k x452000 x452001 x452002 x452003).bind fun bt460 => (some (((bt454.1 == bt460.1 && (bt454.2.1 == bt460.2.1)) && ((bt454.2.2.1 == bt460.2.2.1 && (bt454.2.2.2.1 == bt460.2.2.2.1)))), 0))))
def spec_AreSameMatrices.f (k : Nat) (a0_0 a0_1 a0_2 a0_3 a1_0 a1_1 a1_2 a1_3 : Int) : Option (Bool × Int) := (spec_l04Is.f k a0_0 a0_1 a0_2 a0_3).bind fun t452 => (if t452 = true then ((spec_l04Is.f k a1_0 a1_1 a1_2 a1_3).bind fun t453 => (spec_AreSameMatrices.j0 k (!t453) a0_0 a0_1 a0_2 a0_3 a1_0 a1_1 a1_2 a1_3)) else (spec_AreSameMatrices.j0 k true a0_0 a0_1 a0_2 a0_3 a1_0 a1_1 a1_2 a1_3))
theorem spec_AreSameMatrices.calls (k : Nat) (a0_0 a0_1 a0_2 a0_3 a1_0 a1_1 a1_2 a1_3 : Int) (r1 : Bool) (r2 : Int) (w : World) (h : spec_AreSameMatrices.f k a0_0 a0_1 a0_2 a0_3 a1_0 a1_1 a1_2 a1_3 = some (r1, r2)) :
  Calls Try.prog 21 #[.agg #[.int .i64 a0_0, .int .i64 a0_1, .int .i64 a0_2, .int .i64 a0_3], .agg #[.int .i64 a1_0, .int .i64 a1_1, .int .i64 a1_2, .int .i64 a1_3]] w fun e w' => e = .returned (.tuple #[.bool r1, .int .i64 r2]) ∧ Below w.heap.size w w' := by
 have hu26 := Try.underlying26
 have HB := Aside0.mk (Below.refl w.heap.size w)
 unfold spec_AreSameMatrices.f at h
 have H := h
 clear h
 have HC3 := Aside0.mk H
 clear H
 go_enter Try.func21, Try.ntmps21
 go_upto_region 1 with (first | ((refine gd_ 2 ?_); refine by_ 2 #[.int .i64 a0_0, .int .i64 a0_1, .int .i64 a0_2, .int .i64 a0_3] 26 HB ?_; intro gb450 hg w4 BK450 hb GW450 HB_; replace HB := HB_; clear hb hg) | ((refine gd_ 3 ?_); refine by_ 3 #[.int .i64 a1_0, .int .i64 a1_1, .int .i64 a1_2, .int .i64 a1_3] 26 HB ?_; intro gb451 hg w5 BK451 hb GW451 HB_; have NB450_451 := bm_ BK450 hg; have NB451_450 := bn_ BK450 hg; replace BK450 := bb_ BK450 hb; replace HB := HB_; clear hb hg))
 (try simp only [Act.put, lstS, lstZ, lstC])
 go_cut [17] (fun v17 wc => ∃ (kq : Nat) (x17_2 : Bool), v17 = .bool x17_2 ∧ Aside0 (spec_AreSameMatrices.j0 kq x17_2 a0_0 a0_1 a0_2 a0_3 a1_0 a1_1 a1_2 a1_3 = some (r1, r2)) ∧ Aside0 (kq ≤ k) ∧ Aside0 (wc.heap[gb450]? = some (.cells #[.int .i64 a0_0, .int .i64 a0_1, .int .i64 a0_2, .int .i64 a0_3] 26 (0, 0))) ∧ Aside0 (wc.heap[gb451]? = some (.cells #[.int .i64 a1_0, .int .i64 a1_1, .int .i64 a1_2, .int .i64 a1_3] 26 (0, 0))) ∧ Aside0 (Below w.heap.size w wc))
 case first =>
  have H := HC3.out
  clear HC3
  replace H := oc_ H
  obtain ⟨t452, A6, H⟩ := H
  replace H := ib_ H
  rcases H with ⟨rfl, H⟩ | ⟨rfl, H⟩
  ·replace H := oc_ H
   obtain ⟨t453, A8, H⟩ := H
   have H' := Aside0.mk H
   clear H
   have hnb9 := NB450_451.out
   have hnc9 := NB451_450.out
   obtain ⟨hcz10_0, hcz10_1, hcz10_2, hcz10_3, hfz10_0, hfz10_1, hfz10_2, hfz10_3⟩ := ch4_ BK450
   go_wp2_with (first | ((refine gc_ 27 ?_); refine ge_ 11 Try.func27 #[.agg #[.int .i64 a0_0, .int .i64 a0_1, .int .i64 a0_2, .int .i64 a0_3]] ?_; (with_reducible refine (spec_l04Is.calls k a0_0 a0_1 a0_2 a0_3 true _ A6.out).mono ?_); rintro e w11 ⟨rfl, hb⟩; refine ⟨_, rfl, ?_⟩; replace BK450 := bb_ BK450 hb; replace BK451 := bb_ BK451 hb; replace HB := bt_ HB hb; (try clear hb); obtain ⟨hcz12_0, hcz12_1, hcz12_2, hcz12_3, hfz12_0, hfz12_1, hfz12_2, hfz12_3⟩ := ch4_ BK451) | (go_at_call 27; (with_reducible refine (spec_l04Is.calls k a1_0 a1_1 a1_2 a1_3 t453 _ A8.out).mono ?_); rintro e w13 ⟨rfl, hb⟩; replace BK450 := bb_ BK450 hb; replace BK451 := bb_ BK451 hb; replace HB := bt_ HB hb; (try clear hb)))
   go_meet
   case rel => exact ⟨_, (!t453), en_, H', ⟨by first | omega | exact Nat.le_refl _⟩, bl_ BK450, bl_ BK451, bw_ HB⟩
  have H' := Aside0.mk H
  clear H
  have hnb14 := NB450_451.out
  have hnc14 := NB451_450.out
  obtain ⟨hcz15_0, hcz15_1, hcz15_2, hcz15_3, hfz15_0, hfz15_1, hfz15_2, hfz15_3⟩ := ch4_ BK450
  go_wp2_with (first | ((refine gc_ 27 ?_); refine ge_ 11 Try.func27 #[.agg #[.int .i64 a0_0, .int .i64 a0_1, .int .i64 a0_2, .int .i64 a0_3]] ?_; (with_reducible refine (spec_l04Is.calls k a0_0 a0_1 a0_2 a0_3 false _ A6.out).mono ?_); rintro e w16 ⟨rfl, hb⟩; refine ⟨_, rfl, ?_⟩; replace BK450 := bb_ BK450 hb; replace BK451 := bb_ BK451 hb; replace HB := bt_ HB hb; (try clear hb)))
  go_meet
  case rel => exact ⟨_, (true), en_, H', ⟨by first | omega | exact Nat.le_refl _⟩, bl_ BK450, bl_ BK451, bw_ HB⟩
 clear HC3
 try clear hcz10_0 hcz10_1 hcz10_2 hcz10_3
 try clear hcz12_0 hcz12_1 hcz12_2 hcz12_3
 try clear hcz15_0 hcz15_1 hcz15_2 hcz15_3
 try clear hfz10_0 hfz10_1 hfz10_2 hfz10_3
 try clear hfz12_0 hfz12_1 hfz12_2 hfz12_3
 try clear hfz15_0 hfz15_1 hfz15_2 hfz15_3
 obtain ⟨kq, x17_2, rfl, HA, HJ2, BK450, BK451, HB⟩ := hcut
 cases kq with
 | zero => exact absurd HA.out (by simp [spec_AreSameMatrices.j0])
 | succ kj2 =>
  have H := HA.out
  clear HA
  simp only [spec_AreSameMatrices.j0] at H
  replace H := ib_ H
  rcases H with ⟨rfl, H⟩ | ⟨rfl, H⟩
  ·simp only [Option.some.injEq, Prod.mk.injEq] at H
   obtain ⟨rfl, rfl⟩ := H
   go_wp2
   go_ret2
   exact ⟨es_, (bw_ HB).out⟩
  replace H := oc_ H
  obtain ⟨⟨t454, t455, t456, t457, t458⟩, A18, H⟩ := H
  replace H := oc_ H
  obtain ⟨⟨t460, t461, t462, t463, t464⟩, A19, H⟩ := H
  simp only [Option.some.injEq, Prod.mk.injEq] at H
  obtain ⟨rfl, rfl⟩ := H
  have hnb20 := NB450_451.out
  have hnc20 := NB451_450.out
  obtain ⟨hcz21_0, hcz21_1, hcz21_2, hcz21_3, hfz21_0, hfz21_1, hfz21_2, hfz21_3⟩ := ch4_ BK450
  go_wp2_with (first | ((refine gc_ 33 ?_); refine ge_ 20 Try.func33 #[.agg #[.int .i64 a0_0, .int .i64 a0_1, .int .i64 a0_2, .int .i64 a0_3]] ?_; (with_reducible refine (spec_l04Reduce.calls kj2 a0_0 a0_1 a0_2 a0_3 t454 t455 t456 t457 t458 _ A18.out).mono ?_); rintro e w22 ⟨rfl, hb⟩; refine ⟨_, rfl, ?_⟩; replace BK450 := bb_ BK450 hb; replace BK451 := bb_ BK451 hb; replace HB := bt_ HB hb; (try clear hb)) | ((refine gd_ 6 ?_); refine by_ 6 #[.int .i64 0, .int .i64 0, .int .i64 0, .int .i64 0] 26 HB ?_; intro gb459 hg w23 BK459 hb GW459 HB_; have NB450_459 := bm_ BK450 hg; have NB459_450 := bn_ BK450 hg; have NB451_459 := bm_ BK451 hg; have NB459_451 := bn_ BK451 hg; replace BK450 := bb_ BK450 hb; replace BK451 := bb_ BK451 hb; replace HB := HB_; clear hb hg; have hnb24 := NB459_450.out; have hnc24 := NB450_459.out; have hnb25 := NB459_451.out; have hnc25 := NB451_459.out; obtain ⟨hcz26_0, hcz26_1, hcz26_2, hcz26_3, hfz26_0, hfz26_1, hfz26_2, hfz26_3⟩ := ch4_ BK459; obtain ⟨hcz27_0, hcz27_1, hcz27_2, hcz27_3, hfz27_0, hfz27_1, hfz27_2, hfz27_3⟩ := ch4_ BK451) | ((refine gc_ 33 ?_); refine ge_ 25 Try.func33 #[.agg #[.int .i64 a1_0, .int .i64 a1_1, .int .i64 a1_2, .int .i64 a1_3]] ?_; (with_reducible refine (spec_l04Reduce.calls kj2 a1_0 a1_1 a1_2 a1_3 t460 t461 t462 t463 t464 _ A19.out).mono ?_); rintro e w28 ⟨rfl, hb⟩; refine ⟨_, rfl, ?_⟩; replace BK450 := fb_ BK450 NB450_459 hb; replace BK451 := fb_ BK451 NB451_459 hb; replace BK459 := Aside0.mk (blk_below (g := gb459) (o := .cells #[.int .i64 t454, .int .i64 t455, .int .i64 t456, .int .i64 t457] 26 (0, 0)) (bp_ BK459).out hb); replace HB := bt_ HB hb; (try clear hb)) | ((refine gd_ 8 ?_); refine by_ 8 #[.int .i64 0, .int .i64 0, .int .i64 0, .int .i64 0] 26 HB ?_; intro gb465 hg w29 BK465 hb GW465 HB_; have NB450_465 := bm_ BK450 hg; have NB465_450 := bn_ BK450 hg; have NB451_465 := bm_ BK451 hg; have NB465_451 := bn_ BK451 hg; have NB459_465 := bm_ BK459 hg; have NB465_459 := bn_ BK459 hg; replace BK450 := bb_ BK450 hb; replace BK451 := bb_ BK451 hb; replace BK459 := bb_ BK459 hb; replace HB := HB_; clear hb hg; have hnb30 := NB465_450.out; have hnc30 := NB450_465.out; have hnb31 := NB465_451.out; have hnc31 := NB451_465.out; have hnb32 := NB465_459.out; have hnc32 := NB459_465.out; obtain ⟨hcz33_0, hcz33_1, hcz33_2, hcz33_3, hfz33_0, hfz33_1, hfz33_2, hfz33_3⟩ := ch4_ BK465; obtain ⟨hcz34_0, hcz34_1, hcz34_2, hcz34_3, hfz34_0, hfz34_1, hfz34_2, hfz34_3⟩ := ch4_ BK459))
  go_ret2
  exact ⟨es_, (bw_ HB).out⟩
end Go.Proofs.Yteniblbnmcfmjaa.QM
