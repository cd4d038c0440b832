import Derived.Test.YteniblbnmcfmjaaQMx6
import Derived.Test.YteniblbnmcfmjaaQMx14
import Derived.Test.YteniblbnmcfmjaaQMx16
namespace Go.Proofs.Yteniblbnmcfmjaa.QM
set_option maxHeartbeats 8000000
set_option maxRecDepth 100000
open Go.RowKit Go.Proofs.YteniblbnmcfmjaaW.PrintWords Go.Proofs.YteniblbnmcfmjaaW.PrintLast Go.Proofs.YteniblbnmcfmjaaW.PrintMore
attribute [local go_sem] isSome_setCell max2_int min2_int max_two min_two max_three min_three max_four min_four
set_option linter.unusedVariables false
set_option linter.unusedSimpArgs false

/-! ### impl_MultiplyMatrices: function 6 -/
def impl_MultiplyMatrices.f (k : Nat) (a0_0 a0_1 a0_2 a0_3 a1_0 a1_1 a1_2 a1_3 : Int) : Option (Int × Int × Int × Int × Int) := (impl_areMatrices.f k (([(⟨(⟨a0_0, a0_1⟩ : S24), (⟨a0_2, a0_3⟩ : S24)⟩ : S26), (⟨(⟨a1_0, a1_1⟩ : S24), (⟨a1_2, a1_3⟩ : S24)⟩ : S26)] : List (S26)))).bind fun t209 => (if t209 = true then ((impl_product.f k a0_0 a0_1 a0_2 a0_3 a1_0 a1_1 a1_2 a1_3).bind fun bt210 => ((impl_fittedMatrix.f bt210.1 bt210.2.1 bt210.2.2.1 bt210.2.2.2.1 bt210.2.2.2.2).bind fun bt215 => (some (bt215.1, bt215.2.1, bt215.2.2.1, bt215.2.2.2.1, bt215.2.2.2.2)))) else (some (0, 0, 0, 0, 1)))
theorem impl_MultiplyMatrices.calls (k : Nat) (a0_0 a0_1 a0_2 a0_3 a1_0 a1_1 a1_2 a1_3 r1 r2 r3 r4 r5 : Int) (w : World) (h : impl_MultiplyMatrices.f k a0_0 a0_1 a0_2 a0_3 a1_0 a1_1 a1_2 a1_3 = some (r1, r2, r3, r4, r5)) :
  Calls Try.prog 6 #[.agg #[.int .i64 a0_0, .int .i64 a0_1, .int .i64 a0_2, .int .i64 a0_3], .agg #[.int .i64 a1_0, .int .i64 a1_1, .int .i64 a1_2, .int .i64 a1_3]] w fun e w' => e = .returned (.tuple #[.agg #[.int .i64 r1, .int .i64 r2, .int .i64 r3, .int .i64 r4], .int .i64 r5]) ∧ Below w.heap.size w w' := by
 have hu26 := Try.underlying26
 have HB := Aside0.mk (Below.refl w.heap.size w)
 unfold impl_MultiplyMatrices.f at h
 have H := h
 clear h
 obtain ⟨y206, hy206⟩ : ∃ y_ : List (S26), y_ = (([(⟨(⟨a0_0, a0_1⟩ : S24), (⟨a0_2, a0_3⟩ : S24)⟩ : S26), (⟨(⟨a1_0, a1_1⟩ : S24), (⟨a1_2, a1_3⟩ : S24)⟩ : S26)] : List (S26))) := ⟨_, rfl⟩
 replace H : ((impl_areMatrices.f k y206).bind fun t209 => (if t209 = true then ((impl_product.f k a0_0 a0_1 a0_2 a0_3 a1_0 a1_1 a1_2 a1_3).bind fun bt210 => ((impl_fittedMatrix.f bt210.1 bt210.2.1 bt210.2.2.1 bt210.2.2.2.1 bt210.2.2.2.2).bind fun bt215 => (some (bt215.1, bt215.2.1, bt215.2.2.1, bt215.2.2.2.1, bt215.2.2.2.2)))) else (some (0, 0, 0, 0, 1)))) = some (r1, r2, r3, r4, r5) := by first | (rw [hy206]; with_reducible exact H) | (have H2_ := (Option.bind_some _ _).symm.trans H; rw [hy206]; with_reducible exact H2_) | (have H2_ := (Option.bind_some _ _).symm.trans H; with_reducible exact H2_) | with_reducible exact H | (rw [hy206]; exact H) | exact H
 have Ny206 := Aside0.mk hy206
 clear hy206
 replace H := oc_ H
 obtain ⟨t209, A3, H⟩ := H
 replace H := ib_ H
 rcases H with ⟨rfl, H⟩ | ⟨rfl, H⟩
 ·replace H := oc_ H
  obtain ⟨⟨t210, t211, t212, t213, t214⟩, A5, H⟩ := H
  replace H := oc_ H
  obtain ⟨⟨t215, t216, t217, t218, t219⟩, A6, H⟩ := H
  simp only [Option.some.injEq, Prod.mk.injEq] at H
  obtain ⟨rfl, rfl, rfl, rfl, rfl⟩ := H
  go_enter Try.func6, Try.ntmps6
  go_wp2_with (first | ((refine gd_ 2 ?_); refine by_ 2 #[.int .i64 a0_0, .int .i64 a0_1, .int .i64 a0_2, .int .i64 a0_3] 26 HB ?_; intro gb203 hg w7 BK203 hb GW203 HB_; replace HB := HB_; clear hb hg) | ((refine gd_ 3 ?_); refine by_ 3 #[.int .i64 a1_0, .int .i64 a1_1, .int .i64 a1_2, .int .i64 a1_3] 26 HB ?_; intro gb204 hg w8 BK204 hb GW204 HB_; have NB203_204 := bm_ BK203 hg; have NB204_203 := bn_ BK203 hg; replace BK203 := bb_ BK203 hb; replace HB := HB_; clear hb hg) | ((refine gd_ 4 ?_); refine by_ 4 #[.int .i64 0, .int .i64 0, .int .i64 0, .int .i64 0] 26 HB ?_; intro gb205 hg w9 BK205 hb GW205 HB_; have NB203_205 := bm_ BK203 hg; have NB205_203 := bn_ BK203 hg; have NB204_205 := bm_ BK204 hg; have NB205_204 := bn_ BK204 hg; replace BK203 := bb_ BK203 hb; replace BK204 := bb_ BK204 hb; replace HB := HB_; clear hb hg; have hnb10 := NB203_204.out; have hnc10 := NB204_203.out; have hnb11 := NB203_205.out; have hnc11 := NB205_203.out; obtain ⟨hcz12_0, hcz12_1, hcz12_2, hcz12_3, hfz12_0, hfz12_1, hfz12_2, hfz12_3⟩ := ch4_ BK203; have hnb13 := NB204_205.out; have hnc13 := NB205_204.out; obtain ⟨hcz14_0, hcz14_1, hcz14_2, hcz14_3, hfz14_0, hfz14_1, hfz14_2, hfz14_3⟩ := ch4_ BK204) | ((refine gd_ 8 ?_); refine Kd.R_lit k26 _ 26 ?hg (N := 8) ?hd (xs := ([(⟨(⟨a0_0, a0_1⟩ : S24), (⟨a0_2, a0_3⟩ : S24)⟩ : S26), (⟨(⟨a1_0, a1_1⟩ : S24), (⟨a1_2, a1_3⟩ : S24)⟩ : S26)] : List (S26))) (inner := [.int .i64 a0_0, .int .i64 a0_1, .int .i64 a0_2, .int .i64 a0_3, .int .i64 a1_0, .int .i64 a1_1, .int .i64 a1_2, .int .i64 a1_3]) (ok := fun _ => True) (okp := fun _ => True) ?hr ?hp (fun _ hk => hk) trivial (Below.refl _ _) (Nat.le_refl _) (by simp) ?_; (case hd => rfl); (case hg => rfl); (case hr => first | (go_simp; done) | (go_simp; rfl)); (case hp => exact (Reps.c4 (show Kd.M k26 _ _ _ (⟨(⟨a0_0, a0_1⟩ : S24), (⟨a0_2, a0_3⟩ : S24)⟩ : S26) [.int .i64 a0_0, .int .i64 a0_1, .int .i64 a0_2, .int .i64 a0_3] from (k26_mkM _ _ _ (⟨(⟨a0_0, a0_1⟩ : S24), (⟨a0_2, a0_3⟩ : S24)⟩ : S26) )) (Reps.c4 (show Kd.M k26 _ _ _ (⟨(⟨a1_0, a1_1⟩ : S24), (⟨a1_2, a1_3⟩ : S24)⟩ : S26) [.int .i64 a1_0, .int .i64 a1_1, .int .i64 a1_2, .int .i64 a1_3] from (k26_mkM _ _ _ (⟨(⟨a1_0, a1_1⟩ : S24), (⟨a1_2, a1_3⟩ : S24)⟩ : S26) )) (Reps.none _ _)))); intro v207 w15 ho16 hb hg_ hnew_; clear hg_ hnew_; (first | rw [← Ny206.out] at ho16 | (simp only [Int.reduceToNat] at ho16; rw [← Ny206.out] at ho16)); have HO208 := Aside0.mk (Kd.R_lower (Kd.R_newB (Kd.R_newB (Kd.R_newB ho16 (g := gb203) (o := .cells #[.int .i64 a0_0, .int .i64 a0_1, .int .i64 a0_2, .int .i64 a0_3] 26 (0, 0)) (bl_ BK203).out) (g := gb204) (o := .cells #[.int .i64 a1_0, .int .i64 a1_1, .int .i64 a1_2, .int .i64 a1_3] 26 (0, 0)) (bl_ BK204).out) (g := gb205) (o := .cells #[.int .i64 0, .int .i64 0, .int .i64 0, .int .i64 0] 26 (0, 0)) (bl_ BK205).out) (below_size (bw_ HB).out)); replace BK203 := bb_ BK203 hb; replace BK204 := bb_ BK204 hb; replace BK205 := bb_ BK205 hb; replace HB := bt_ HB hb; clear hb ho16; obtain ⟨Ao17, co17, eo17⟩ := Kd.R_slice HO208.out; subst eo17) | ((refine gc_ 24 ?_); refine ge_ 9 Try.func24 #[.slice Ao17 y206.length co17] ?_; (with_reducible refine (impl_areMatrices.calls k _ _ y206 true _ ?side1 ?side2 A3.out).mono ?_); (case side1 => exact ca_ (Kd.R_reads' HO208.out).2.2); (case side2 => exact (Kd.R_reads' HO208.out).2.1); rintro e w18 ⟨rfl, hb⟩; refine ⟨_, rfl, ?_⟩; replace HO208 := rb_ HO208 hb; replace BK203 := bb_ BK203 hb; replace BK204 := bb_ BK204 hb; replace BK205 := bb_ BK205 hb; replace HB := bt_ HB hb; (try clear hb); obtain ⟨hcz19_0, hcz19_1, hcz19_2, hcz19_3, hfz19_0, hfz19_1, hfz19_2, hfz19_3⟩ := ch4_ BK203; obtain ⟨hcz20_0, hcz20_1, hcz20_2, hcz20_3, hfz20_0, hfz20_1, hfz20_2, hfz20_3⟩ := ch4_ BK204) | ((refine gc_ 26 ?_); refine ge_ 14 Try.func26 #[.agg #[.int .i64 a0_0, .int .i64 a0_1, .int .i64 a0_2, .int .i64 a0_3], .agg #[.int .i64 a1_0, .int .i64 a1_1, .int .i64 a1_2, .int .i64 a1_3]] ?_; (with_reducible refine (impl_product.calls k a0_0 a0_1 a0_2 a0_3 a1_0 a1_1 a1_2 a1_3 t210 t211 t212 t213 t214 _ A5.out).mono ?_); rintro e w21 ⟨rfl, hb⟩; refine ⟨_, rfl, ?_⟩; replace HO208 := rb_ HO208 hb; replace BK203 := bb_ BK203 hb; replace BK204 := bb_ BK204 hb; replace BK205 := bb_ BK205 hb; replace HB := bt_ HB hb; (try clear hb)) | ((refine gc_ 25 ?_); refine ge_ 17 Try.func25 #[.agg #[.int .i64 t210, .int .i64 t211, .int .i64 t212, .int .i64 t213], .bool t214] ?_; (with_reducible refine (impl_fittedMatrix.calls t210 t211 t212 t213 t214 t215 t216 t217 t218 t219 _ A6.out).mono ?_); rintro e w22 ⟨rfl, hb⟩; refine ⟨_, rfl, ?_⟩; replace HO208 := rb_ HO208 hb; replace BK203 := bb_ BK203 hb; replace BK204 := bb_ BK204 hb; replace BK205 := bb_ BK205 hb; replace HB := bt_ HB hb; (try clear hb); obtain ⟨hcz23_0, hcz23_1, hcz23_2, hcz23_3, hfz23_0, hfz23_1, hfz23_2, hfz23_3⟩ := ch4_ BK205))
  refine bodyPost_ret (results_ct rfl _ _ gb205 26 #[.int .i64 t215, .int .i64 t216, .int .i64 t217, .int .i64 t218] (0, 0) _ rfl (bp_ BK205).out Try.underlying26 rfl (by kernel_rfl)) rfl ?_
  exact ⟨es_, (bw_ HB).out⟩
 simp only [Option.some.injEq, Prod.mk.injEq] at H
 obtain ⟨rfl, rfl, rfl, rfl, rfl⟩ := H
 go_enter Try.func6, Try.ntmps6
 go_wp2_with (first | ((refine gd_ 2 ?_); refine by_ 2 #[.int .i64 a0_0, .int .i64 a0_1, .int .i64 a0_2, .int .i64 a0_3] 26 HB ?_; intro gb203 hg w24 BK203 hb GW203 HB_; replace HB := HB_; clear hb hg) | ((refine gd_ 3 ?_); refine by_ 3 #[.int .i64 a1_0, .int .i64 a1_1, .int .i64 a1_2, .int .i64 a1_3] 26 HB ?_; intro gb204 hg w25 BK204 hb GW204 HB_; have NB203_204 := bm_ BK203 hg; have NB204_203 := bn_ BK203 hg; replace BK203 := bb_ BK203 hb; replace HB := HB_; clear hb hg) | ((refine gd_ 4 ?_); refine by_ 4 #[.int .i64 0, .int .i64 0, .int .i64 0, .int .i64 0] 26 HB ?_; intro gb205 hg w26 BK205 hb GW205 HB_; have NB203_205 := bm_ BK203 hg; have NB205_203 := bn_ BK203 hg; have NB204_205 := bm_ BK204 hg; have NB205_204 := bn_ BK204 hg; replace BK203 := bb_ BK203 hb; replace BK204 := bb_ BK204 hb; replace HB := HB_; clear hb hg; have hnb27 := NB203_204.out; have hnc27 := NB204_203.out; have hnb28 := NB203_205.out; have hnc28 := NB205_203.out; obtain ⟨hcz29_0, hcz29_1, hcz29_2, hcz29_3, hfz29_0, hfz29_1, hfz29_2, hfz29_3⟩ := ch4_ BK203; have hnb30 := NB204_205.out; have hnc30 := NB205_204.out; obtain ⟨hcz31_0, hcz31_1, hcz31_2, hcz31_3, hfz31_0, hfz31_1, hfz31_2, hfz31_3⟩ := ch4_ BK204) | ((refine gd_ 8 ?_); refine Kd.R_lit k26 _ 26 ?hg (N := 8) ?hd (xs := ([(⟨(⟨a0_0, a0_1⟩ : S24), (⟨a0_2, a0_3⟩ : S24)⟩ : S26), (⟨(⟨a1_0, a1_1⟩ : S24), (⟨a1_2, a1_3⟩ : S24)⟩ : S26)] : List (S26))) (inner := [.int .i64 a0_0, .int .i64 a0_1, .int .i64 a0_2, .int .i64 a0_3, .int .i64 a1_0, .int .i64 a1_1, .int .i64 a1_2, .int .i64 a1_3]) (ok := fun _ => True) (okp := fun _ => True) ?hr ?hp (fun _ hk => hk) trivial (Below.refl _ _) (Nat.le_refl _) (by simp) ?_; (case hd => rfl); (case hg => rfl); (case hr => first | (go_simp; done) | (go_simp; rfl)); (case hp => exact (Reps.c4 (show Kd.M k26 _ _ _ (⟨(⟨a0_0, a0_1⟩ : S24), (⟨a0_2, a0_3⟩ : S24)⟩ : S26) [.int .i64 a0_0, .int .i64 a0_1, .int .i64 a0_2, .int .i64 a0_3] from (k26_mkM _ _ _ (⟨(⟨a0_0, a0_1⟩ : S24), (⟨a0_2, a0_3⟩ : S24)⟩ : S26) )) (Reps.c4 (show Kd.M k26 _ _ _ (⟨(⟨a1_0, a1_1⟩ : S24), (⟨a1_2, a1_3⟩ : S24)⟩ : S26) [.int .i64 a1_0, .int .i64 a1_1, .int .i64 a1_2, .int .i64 a1_3] from (k26_mkM _ _ _ (⟨(⟨a1_0, a1_1⟩ : S24), (⟨a1_2, a1_3⟩ : S24)⟩ : S26) )) (Reps.none _ _)))); intro v207 w32 ho33 hb hg_ hnew_; clear hg_ hnew_; (first | rw [← Ny206.out] at ho33 | (simp only [Int.reduceToNat] at ho33; rw [← Ny206.out] at ho33)); have HO208 := Aside0.mk (Kd.R_lower (Kd.R_newB (Kd.R_newB (Kd.R_newB ho33 (g := gb203) (o := .cells #[.int .i64 a0_0, .int .i64 a0_1, .int .i64 a0_2, .int .i64 a0_3] 26 (0, 0)) (bl_ BK203).out) (g := gb204) (o := .cells #[.int .i64 a1_0, .int .i64 a1_1, .int .i64 a1_2, .int .i64 a1_3] 26 (0, 0)) (bl_ BK204).out) (g := gb205) (o := .cells #[.int .i64 0, .int .i64 0, .int .i64 0, .int .i64 0] 26 (0, 0)) (bl_ BK205).out) (below_size (bw_ HB).out)); replace BK203 := bb_ BK203 hb; replace BK204 := bb_ BK204 hb; replace BK205 := bb_ BK205 hb; replace HB := bt_ HB hb; clear hb ho33; obtain ⟨Ao34, co34, eo34⟩ := Kd.R_slice HO208.out; subst eo34) | ((refine gc_ 24 ?_); refine ge_ 9 Try.func24 #[.slice Ao34 y206.length co34] ?_; (with_reducible refine (impl_areMatrices.calls k _ _ y206 false _ ?side1 ?side2 A3.out).mono ?_); (case side1 => exact ca_ (Kd.R_reads' HO208.out).2.2); (case side2 => exact (Kd.R_reads' HO208.out).2.1); rintro e w35 ⟨rfl, hb⟩; refine ⟨_, rfl, ?_⟩; replace HO208 := rb_ HO208 hb; replace BK203 := bb_ BK203 hb; replace BK204 := bb_ BK204 hb; replace BK205 := bb_ BK205 hb; replace HB := bt_ HB hb; (try clear hb); obtain ⟨hcz36_0, hcz36_1, hcz36_2, hcz36_3, hfz36_0, hfz36_1, hfz36_2, hfz36_3⟩ := ch4_ BK205))
 refine bodyPost_ret (results_ct rfl _ _ gb205 26 #[.int .i64 0, .int .i64 0, .int .i64 0, .int .i64 0] (0, 0) _ rfl (bp_ BK205).out Try.underlying26 rfl (by kernel_rfl)) rfl ?_
 exact ⟨es_, (bw_ HB).out⟩
/-! ### spec_l01In: function 38 -/
def spec_l01In.f (a0 a1 a2 : Int) : Option (Bool) := if a0 ≥ a1 then (some (decide (a0 ≤ a2))) else (some false)
theorem spec_l01In.calls (a0 a1 a2 : Int) (r : Bool) (w : World) (h : spec_l01In.f a0 a1 a2 = some r) :
  Calls Try.prog 38 #[.int .i64 a0, .int .i64 a1, .int .i64 a2] w fun e w' => e = .returned (.bool r) ∧ Drawn0 w w' := by
 unfold spec_l01In.f at h
 have H := h
 clear h
 replace H := in_ H
 rcases H with ⟨c4b0, H⟩ | ⟨c4b0, H⟩
 ·obtain rfl := si_ H
  go_enter Try.func38, Try.ntmps38
  go_wp2
  go_ret
  exact ⟨en_, de_⟩
 obtain rfl := si_ H
 go_enter Try.func38, Try.ntmps38
 go_wp2
 go_ret
 exact ⟨en_, de_⟩
/-! ### spec_l04Is: function 27 -/
mutual
def spec_l04Is.l0 : Nat → Int → Int → Int → Int → Int → Option (Bool)
 | 0, _, _, _, _, _ => none
 | k + 1, x3, x221000, x221001, x221002, x221003 => if x3 < 2 then (spec_l04Is.l1 k x3 0 x221000 x221001 x221002 x221003) else ((spec_l04Det.f x221000 x221001 x221002 x221003).bind fun t221 => (some (t221 != 0)))
def spec_l04Is.l1 : Nat → Int → Int → Int → Int → Int → Int → Option (Bool)
 | 0, _, _, _, _, _, _ => none
 | k + 1, x3, x4, x221000, x221001, x221002, x221003 => if x4 < 2 then (if x3 = 0 then (if x4 = 0 then ((spec_l01In.f x221000 (-1000) 1000).bind fun t222 => (if t222 = true then (spec_l04Is.l1 k x3 (wrap64 (x4 + 1)) x221000 x221001 x221002 x221003) else (some false))) else (if x4 = 1 then ((spec_l01In.f x221001 (-1000) 1000).bind fun t223 => (if t223 = true then (spec_l04Is.l1 k x3 (wrap64 (x4 + 1)) x221000 x221001 x221002 x221003) else (some false))) else (none))) else (if x3 = 1 then (if x4 = 0 then ((spec_l01In.f x221002 (-1000) 1000).bind fun t224 => (if t224 = true then (spec_l04Is.l1 k x3 (wrap64 (x4 + 1)) x221000 x221001 x221002 x221003) else (some false))) else (if x4 = 1 then ((spec_l01In.f x221003 (-1000) 1000).bind fun t225 => (if t225 = true then (spec_l04Is.l1 k x3 (wrap64 (x4 + 1)) x221000 x221001 x221002 x221003) else (some false))) else (none))) else (none))) else (spec_l04Is.l0 k (wrap64 (x3 + 1)) x221000 x221001 x221002 x221003)
end
def spec_l04Is.f (k : Nat) (a0_0 a0_1 a0_2 a0_3 : Int) : Option (Bool) := spec_l04Is.l0 k 0 a0_0 a0_1 a0_2 a0_3
theorem spec_l04Is.calls (k : Nat) (a0_0 a0_1 a0_2 a0_3 : Int) (r : Bool) (w : World) (h : spec_l04Is.f k a0_0 a0_1 a0_2 a0_3 = some r) :
  Calls Try.prog 27 #[.agg #[.int .i64 a0_0, .int .i64 a0_1, .int .i64 a0_2, .int .i64 a0_3]] w fun e w' => e = .returned (.bool r) ∧ Below w.heap.size w w' := by
 have hu26 := Try.underlying26
 have hu24 := Try.underlying24
 have HB := Aside0.mk (Below.refl w.heap.size w)
 unfold spec_l04Is.f at h
 have H := h
 clear h
 have H' := Aside0.mk H
 clear H
 go_enter Try.func27, Try.ntmps27
 go_wp2_with (first | ((refine gd_ 1 ?_); refine by_ 1 #[.int .i64 a0_0, .int .i64 a0_1, .int .i64 a0_2, .int .i64 a0_3] 26 HB ?_; intro gb220 hg w2 BK220 hb GW220 HB_; replace HB := HB_; clear hb hg))
 go_loopg [3] k (fun kq v3 w' => ∃ (x3_1 : Int), v3 = .int .i64 x3_1 ∧ Aside0 (spec_l04Is.l0 kq x3_1 a0_0 a0_1 a0_2 a0_3 = some r) ∧ Aside0 (kq ≤ k) ∧ Aside0 (w'.heap[gb220]? = some (.cells #[.int .i64 a0_0, .int .i64 a0_1, .int .i64 a0_2, .int .i64 a0_3] 26 (0, 0))) ∧ Aside0 (Below w.heap.size w w'))
 case atStart => exact ⟨(0), en_, H', ⟨Nat.le_refl _⟩, bl_ BK220, bw_ HB⟩
 clear H'
 obtain ⟨x3_1, rfl, HA, HK1, BK220, HB⟩ := hrel
 cases gk with
 | zero => exact absurd HA.out (by simp [spec_l04Is.l0])
 | succ k1 =>
  have H := HA.out
  clear HA
  simp only [spec_l04Is.l0] at H
  replace H := il_ H
  rcases H with ⟨c3b0, H⟩ | ⟨c3b0, H⟩
  ·have H' := Aside0.mk H
   clear H
   go_wp2
   go_loopg [4] k1 (fun kq v4 w' => ∃ (x4_2 : Int), v4 = .int .i64 x4_2 ∧ Aside0 (spec_l04Is.l1 kq x3_1 x4_2 a0_0 a0_1 a0_2 a0_3 = some r) ∧ Aside0 (kq ≤ k1) ∧ Aside0 (w'.heap[gb220]? = some (.cells #[.int .i64 a0_0, .int .i64 a0_1, .int .i64 a0_2, .int .i64 a0_3] 26 (0, 0))) ∧ Aside0 (Below w.heap.size w w'))
   case atStart => exact ⟨(0), en_, H', ⟨Nat.le_refl _⟩, bl_ BK220, bw_ HB⟩
   clear H'
   try clear c3b0
   obtain ⟨x4_2, rfl, HA, HK2, BK220, HB⟩ := hrel
   cases gk with
   | zero => exact absurd HA.out (by simp [spec_l04Is.l1])
   | succ k2 =>
    have H := HA.out
    clear HA
    simp only [spec_l04Is.l1] at H
    replace H := il_ H
    rcases H with ⟨c4b0, H⟩ | ⟨c4b0, H⟩
    ·by_cases c5 : x3_1 = 0
     ·subst c5
      replace H := i1_ H
      by_cases c6 : x4_2 = 0
      ·subst c6
       replace H := i1_ H
       replace H := oc_ H
       obtain ⟨t222, A7, H⟩ := H
       replace H := ib_ H
       rcases H with ⟨rfl, H⟩ | ⟨rfl, H⟩
       ·have H' := Aside0.mk H
        clear H
        obtain ⟨hcz9_0, hcz9_1, hcz9_2, hcz9_3, hfz9_0, hfz9_1, hfz9_2, hfz9_3⟩ := ch4_ BK220
        go_wp2_with (first | ((refine gc_ 38 ?_); refine ge_ 18 Try.func38 #[.int .i64 a0_0, .int .i64 (-1000), .int .i64 1000] ?_; (with_reducible refine (spec_l01In.calls a0_0 (-1000) 1000 true _ A7.out).mono ?_); rintro e w' ⟨rfl, ⟨nd, rfl⟩⟩; refine ⟨_, rfl, ?_⟩))
        go_roundg k2
        case measure => have := HK1.out; have := HK2.out; omega
        case rel => exact ⟨(wrap64 (0 + 1)), en_, H', ⟨by have := HK1.out; have := HK2.out; omega⟩, bl_ BK220, bw_ HB⟩
       obtain rfl := si_ H
       obtain ⟨hcz10_0, hcz10_1, hcz10_2, hcz10_3, hfz10_0, hfz10_1, hfz10_2, hfz10_3⟩ := ch4_ BK220
       go_wp2_with (first | ((refine gc_ 38 ?_); refine ge_ 18 Try.func38 #[.int .i64 a0_0, .int .i64 (-1000), .int .i64 1000] ?_; (with_reducible refine (spec_l01In.calls a0_0 (-1000) 1000 false _ A7.out).mono ?_); rintro e w' ⟨rfl, ⟨nd, rfl⟩⟩; refine ⟨_, rfl, ?_⟩))
       go_ret
       exact ⟨es_, (bw_ HB).out⟩
      rw [if_neg c6] at H
      have c6b0 : (x4_2 == 0) = false := beq_eq_false_iff_ne.mpr c6
      have c6b1 : (x4_2 != 0) = true := bne_iff_ne.mpr c6
      by_cases c11 : x4_2 = 1
      ·subst c11
       replace H := i1_ H
       replace H := oc_ H
       obtain ⟨t223, A12, H⟩ := H
       replace H := ib_ H
       rcases H with ⟨rfl, H⟩ | ⟨rfl, H⟩
       ·have H' := Aside0.mk H
        clear H
        obtain ⟨hcz14_0, hcz14_1, hcz14_2, hcz14_3, hfz14_0, hfz14_1, hfz14_2, hfz14_3⟩ := ch4_ BK220
        go_wp2_with (first | ((refine gc_ 38 ?_); refine ge_ 18 Try.func38 #[.int .i64 a0_1, .int .i64 (-1000), .int .i64 1000] ?_; (with_reducible refine (spec_l01In.calls a0_1 (-1000) 1000 true _ A12.out).mono ?_); rintro e w' ⟨rfl, ⟨nd, rfl⟩⟩; refine ⟨_, rfl, ?_⟩))
        go_roundg k2
        case measure => have := HK1.out; have := HK2.out; omega
        case rel => exact ⟨(wrap64 (1 + 1)), en_, H', ⟨by have := HK1.out; have := HK2.out; omega⟩, bl_ BK220, bw_ HB⟩
       obtain rfl := si_ H
       obtain ⟨hcz15_0, hcz15_1, hcz15_2, hcz15_3, hfz15_0, hfz15_1, hfz15_2, hfz15_3⟩ := ch4_ BK220
       go_wp2_with (first | ((refine gc_ 38 ?_); refine ge_ 18 Try.func38 #[.int .i64 a0_1, .int .i64 (-1000), .int .i64 1000] ?_; (with_reducible refine (spec_l01In.calls a0_1 (-1000) 1000 false _ A12.out).mono ?_); rintro e w' ⟨rfl, ⟨nd, rfl⟩⟩; refine ⟨_, rfl, ?_⟩))
       go_ret
       exact ⟨es_, (bw_ HB).out⟩
      rw [if_neg c11] at H
      exact absurd H (by simp)
     rw [if_neg c5] at H
     have c5b0 : (x3_1 == 0) = false := beq_eq_false_iff_ne.mpr c5
     have c5b1 : (x3_1 != 0) = true := bne_iff_ne.mpr c5
     by_cases c16 : x3_1 = 1
     ·subst c16
      replace H := i1_ H
      by_cases c17 : x4_2 = 0
      ·subst c17
       replace H := i1_ H
       replace H := oc_ H
       obtain ⟨t224, A18, H⟩ := H
       replace H := ib_ H
       rcases H with ⟨rfl, H⟩ | ⟨rfl, H⟩
       ·have H' := Aside0.mk H
        clear H
        obtain ⟨hcz20_0, hcz20_1, hcz20_2, hcz20_3, hfz20_0, hfz20_1, hfz20_2, hfz20_3⟩ := ch4_ BK220
        go_wp2_with (first | ((refine gc_ 38 ?_); refine ge_ 18 Try.func38 #[.int .i64 a0_2, .int .i64 (-1000), .int .i64 1000] ?_; (with_reducible refine (spec_l01In.calls a0_2 (-1000) 1000 true _ A18.out).mono ?_); rintro e w' ⟨rfl, ⟨nd, rfl⟩⟩; refine ⟨_, rfl, ?_⟩))
        go_roundg k2
        case measure => have := HK1.out; have := HK2.out; omega
        case rel => exact ⟨(wrap64 (0 + 1)), en_, H', ⟨by have := HK1.out; have := HK2.out; omega⟩, bl_ BK220, bw_ HB⟩
       obtain rfl := si_ H
       obtain ⟨hcz21_0, hcz21_1, hcz21_2, hcz21_3, hfz21_0, hfz21_1, hfz21_2, hfz21_3⟩ := ch4_ BK220
       go_wp2_with (first | ((refine gc_ 38 ?_); refine ge_ 18 Try.func38 #[.int .i64 a0_2, .int .i64 (-1000), .int .i64 1000] ?_; (with_reducible refine (spec_l01In.calls a0_2 (-1000) 1000 false _ A18.out).mono ?_); rintro e w' ⟨rfl, ⟨nd, rfl⟩⟩; refine ⟨_, rfl, ?_⟩))
       go_ret
       exact ⟨es_, (bw_ HB).out⟩
      rw [if_neg c17] at H
      have c17b0 : (x4_2 == 0) = false := beq_eq_false_iff_ne.mpr c17
      have c17b1 : (x4_2 != 0) = true := bne_iff_ne.mpr c17
      by_cases c22 : x4_2 = 1
      ·subst c22
       replace H := i1_ H
       replace H := oc_ H
       obtain ⟨t225, A23, H⟩ := H
       replace H := ib_ H
       rcases H with ⟨rfl, H⟩ | ⟨rfl, H⟩
       ·have H' := Aside0.mk H
        clear H
        obtain ⟨hcz25_0, hcz25_1, hcz25_2, hcz25_3, hfz25_0, hfz25_1, hfz25_2, hfz25_3⟩ := ch4_ BK220
        go_wp2_with (first | ((refine gc_ 38 ?_); refine ge_ 18 Try.func38 #[.int .i64 a0_3, .int .i64 (-1000), .int .i64 1000] ?_; (with_reducible refine (spec_l01In.calls a0_3 (-1000) 1000 true _ A23.out).mono ?_); rintro e w' ⟨rfl, ⟨nd, rfl⟩⟩; refine ⟨_, rfl, ?_⟩))
        go_roundg k2
        case measure => have := HK1.out; have := HK2.out; omega
        case rel => exact ⟨(wrap64 (1 + 1)), en_, H', ⟨by have := HK1.out; have := HK2.out; omega⟩, bl_ BK220, bw_ HB⟩
       obtain rfl := si_ H
       obtain ⟨hcz26_0, hcz26_1, hcz26_2, hcz26_3, hfz26_0, hfz26_1, hfz26_2, hfz26_3⟩ := ch4_ BK220
       go_wp2_with (first | ((refine gc_ 38 ?_); refine ge_ 18 Try.func38 #[.int .i64 a0_3, .int .i64 (-1000), .int .i64 1000] ?_; (with_reducible refine (spec_l01In.calls a0_3 (-1000) 1000 false _ A23.out).mono ?_); rintro e w' ⟨rfl, ⟨nd, rfl⟩⟩; refine ⟨_, rfl, ?_⟩))
       go_ret
       exact ⟨es_, (bw_ HB).out⟩
      rw [if_neg c22] at H
      exact absurd H (by simp)
     rw [if_neg c16] at H
     exact absurd H (by simp)
    have H' := Aside0.mk H
    clear H
    go_wp2
    go_roundg k2
    case measure => have := HK1.out; have := HK2.out; omega
    case rel => exact ⟨(wrap64 (x3_1 + 1)), en_, H', ⟨by have := HK1.out; have := HK2.out; omega⟩, bl_ BK220, bw_ HB⟩
  replace H := oc_ H
  obtain ⟨t221, A27, H⟩ := H
  obtain rfl := si_ H
  obtain ⟨hcz28_0, hcz28_1, hcz28_2, hcz28_3, hfz28_0, hfz28_1, hfz28_2, hfz28_3⟩ := ch4_ BK220
  go_wp2_with (first | ((refine gc_ 39 ?_); refine ge_ 21 Try.func39 #[.agg #[.int .i64 a0_0, .int .i64 a0_1, .int .i64 a0_2, .int .i64 a0_3]] ?_; (with_reducible refine (spec_l04Det.calls a0_0 a0_1 a0_2 a0_3 t221 _ A27.out).mono ?_); rintro e w29 ⟨rfl, hb⟩; refine ⟨_, rfl, ?_⟩; replace BK220 := bb_ BK220 hb; replace HB := bt_ HB hb; (try clear hb)))
  go_ret
  exact ⟨es_, (bw_ HB).out⟩
/-! ### spec_l01Gcd: function 41 -/
def spec_l01Gcd.l0 : Nat → Int → Int → Option (Int)
 | 0, _, _ => none
 | k + 1, x0, x1 => if x1 = 0 then (some (mx x0 (wrap64 (-x0)))) else (spec_l01Gcd.l0 k x1 (Int.tmod x0 x1))
def spec_l01Gcd.f (k : Nat) (a0 a1 : Int) : Option (Int) := spec_l01Gcd.l0 k a0 a1
theorem spec_l01Gcd.calls (k : Nat) (a0 a1 r : Int) (w : World) (h : spec_l01Gcd.f k a0 a1 = some r) :
  Calls Try.prog 41 #[.int .i64 a0, .int .i64 a1] w fun e w' => e = .returned (.int .i64 r) ∧ Below w.heap.size w w' := by
 have HB := Aside0.mk (Below.refl w.heap.size w)
 unfold spec_l01Gcd.f at h
 have H := h
 clear h
 have H' := Aside0.mk H
 clear H
 go_enter Try.func41, Try.ntmps41
 go_wp2
 go_loopg [0, 1] k (fun kq v0 v1 w' => ∃ (x0_1 : Int) (x1_1 : Int), v0 = .int .i64 x0_1 ∧ v1 = .int .i64 x1_1 ∧ Aside0 (spec_l01Gcd.l0 kq x0_1 x1_1 = some r) ∧ Aside0 (kq ≤ k) ∧ Aside0 (Below w.heap.size w w'))
 case atStart => exact ⟨(a0), (a1), en_, en_, H', ⟨Nat.le_refl _⟩, bw_ HB⟩
 clear H'
 obtain ⟨x0_1, x1_1, rfl, rfl, HA, HK1, HB⟩ := hrel
 cases gk with
 | zero => exact absurd HA.out (by simp [spec_l01Gcd.l0])
 | succ k1 =>
  have H := HA.out
  clear HA
  simp only [spec_l01Gcd.l0] at H
  replace H := ie_ H
  rcases H with ⟨c3b0, c3b1, H⟩ | ⟨c3, c3b0, c3b1, H⟩
  ·obtain ⟨ji4, hji4⟩ : ∃ j_ : Int, (mx x0_1 (wrap64 (-x0_1))) = j_ := ⟨_, rfl⟩
   replace H : (some ji4) = some r := by first | (rw [hji4] at H; exact H) | (simp only [hji4] at H ⊢; exact H)
   have hji4_k : (if x0_1 < (IntKind.i64.wrap (-x0_1)) then (IntKind.i64.wrap (-x0_1)) else x0_1) = ji4 := by simp only [i64_w]; exact hji4
   have hji4_ : (if x0_1 < (wrap64 (-x0_1)) then (wrap64 (-x0_1)) else x0_1) = ji4 := hji4
   obtain rfl := si_ H
   go_wp2
   go_ret
   exact ⟨by first | rfl | (simp [errW_none, errW_some] <;> rfl) | (simp only [← hji4]; first | rfl | (simp [errW_none, errW_some] <;> rfl)) | (simp [*, errW_none, errW_some] <;> rfl), (bw_ HB).out⟩
  have H' := Aside0.mk H
  clear H
  go_wp2
  go_roundg k1
  case measure => have := HK1.out; omega
  case rel => exact ⟨(x1_1), (Int.tmod x0_1 x1_1), en_, en_, H', ⟨by have := HK1.out; omega⟩, bw_ HB⟩
end Go.Proofs.Yteniblbnmcfmjaa.QM
