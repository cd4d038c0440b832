import Derived.Test.YtdfcoebadjhjlaaQFx9
import Derived.Test.YtdfcoebadjhjlaaQFx28
import Derived.Test.YtdfcoebadjhjlaaQFx34
import Derived.Test.YtdfcoebadjhjlaaQFx41
namespace Go.Proofs.Ytdfcoebadjhjlaa.QF
set_option maxHeartbeats 8000000
set_option maxRecDepth 100000
open Go.RowKit Go.Proofs.YtdfcoebadjhjlaaW.PrintWords Go.Proofs.YtdfcoebadjhjlaaW.PrintLast Go.Proofs.YtdfcoebadjhjlaaW.PrintMore
attribute [local go_sem] isSome_setCell max2_int min2_int max_two min_two max_three min_three max_four min_four
set_option linter.unusedVariables false
set_option linter.unusedSimpArgs false

/-! ### impl_ofMark: function 93 -/
def impl_ofMark.f (k : Nat) (a0 a1 a2 : Int) : Option (Int × Int × Int × Bool) := (impl_isLevel.f a1).bind fun t341 => (if t341 = true then ((impl_power.f k a0 (wrap64 (a1 + 6))).bind fun t342 => ((impl_mod.f a2 t342).bind fun t343 => ((impl_valuation.f k a0 t343).bind fun t344 => ((impl_power.f k a0 (wrap64 (6 - (mx (wrap64 (6 - t344)) 0)))).bind fun t345 => (if t345 = 0 then (none) else (some (a1, wrap64 (Int.tdiv t343 t345), mx (wrap64 (6 - t344)) 0, true))))))) else (some (0, 0, 0, false)))
theorem impl_ofMark.calls (k : Nat) (a0 a1 a2 r1 r2 r3 : Int) (r4 : Bool) (w : World) (h : impl_ofMark.f k a0 a1 a2 = some (r1, r2, r3, r4)) :
  Calls Try.prog 93 #[.int .i64 a0, .int .i64 a1, .int .i64 a2] w fun e w' => e = .returned (.tuple #[.agg #[.int .i64 r1, .int .i64 r2, .int .i64 r3], .bool r4]) ∧ Below w.heap.size w w' := by
 have hu31 := Try.underlying31
 have HB := Aside0.mk (Below.refl w.heap.size w)
 unfold impl_ofMark.f at h
 have H := h
 clear h
 replace H := oc_ H
 obtain ⟨t341, A4, H⟩ := H
 replace H := ib_ H
 rcases H with ⟨rfl, H⟩ | ⟨rfl, H⟩
 ·replace H := oc_ H
  obtain ⟨t342, A6, H⟩ := H
  replace H := oc_ H
  obtain ⟨t343, A7, H⟩ := H
  replace H := oc_ H
  obtain ⟨t344, A8, H⟩ := H
  obtain ⟨ji9, hji9⟩ : ∃ j_ : Int, (mx (wrap64 (6 - t344)) 0) = j_ := ⟨_, rfl⟩
  replace H : ((impl_power.f k a0 (wrap64 (6 - (ji9)))).bind fun t345 => (if t345 = 0 then (none) else (some (a1, wrap64 (Int.tdiv t343 t345), ji9, true)))) = some (r1, r2, r3, r4) := by first | (rw [hji9] at H; exact H) | (simp only [hji9] at H ⊢; exact H)
  (try rw [hji9] at A4)
  (try rw [hji9] at A6)
  (try rw [hji9] at A7)
  (try rw [hji9] at A8)
  (try (have hji9l : 0 ≤ ji9 := by (rw [← hji9]; unfold mx; (repeat' split) <;> omega)))
  (try (have hji9m : 0 ≤ ji9 := by omega))
  have hji9_ : (if (wrap64 (6 - t344)) < 0 then 0 else (wrap64 (6 - t344))) = ji9 := hji9
  replace H := oc_ H
  obtain ⟨t345, A10, H⟩ := H
  replace H := ief_ H
  obtain ⟨c11, c11b0, c11b1, H⟩ := H
  simp only [Option.some.injEq, Prod.mk.injEq] at H
  obtain ⟨rfl, rfl, rfl, rfl⟩ := H
  go_enter Try.func93, Try.ntmps93
  go_wp2_with (first | ((refine gd_ 6 ?_); refine by_ 6 #[.int .i64 0, .int .i64 0, .int .i64 0] 31 HB ?_; intro gb340 hg w12 BK340 hb GW340 HB_; replace HB := HB_; clear hb hg) | ((refine gc_ 90 ?_); refine ge_ 10 Try.func90 #[.int .i64 a1] ?_; (with_reducible refine (impl_isLevel.calls a1 true _ A4.out).mono ?_); rintro e w' ⟨rfl, ⟨nd, rfl⟩⟩; refine ⟨_, rfl, ?_⟩; (try (rw [drewN_self w12]; generalize hq_ : World.drewN w12 _ = w12; replace BK340 := bq_ BK340 hq_; replace HB := hq_' HB hq_; clear hq_))) | ((refine gc_ 81 ?_); refine ge_ 17 Try.func81 #[.int .i64 a0, .int .i64 (wrap64 (a1 + 6))] ?_; (with_reducible refine (impl_power.calls k a0 (wrap64 (a1 + 6)) t342 _ A6.out).mono ?_); rintro e w' ⟨rfl, ⟨nd, rfl⟩⟩; refine ⟨_, rfl, ?_⟩; (try (rw [drewN_self w12]; generalize hq_ : World.drewN w12 _ = w12; replace BK340 := bq_ BK340 hq_; replace HB := hq_' HB hq_; clear hq_))) | ((refine gc_ 102 ?_); refine ge_ 18 Try.func102 #[.int .i64 a2, .int .i64 t342] ?_; (with_reducible refine (impl_mod.calls a2 t342 t343 _ A7.out).mono ?_); rintro e w' ⟨rfl, ⟨nd, rfl⟩⟩; refine ⟨_, rfl, ?_⟩; (try (rw [drewN_self w12]; generalize hq_ : World.drewN w12 _ = w12; replace BK340 := bq_ BK340 hq_; replace HB := hq_' HB hq_; clear hq_))) | ((refine gc_ 103 ?_); refine ge_ 21 Try.func103 #[.int .i64 a0, .int .i64 t343] ?_; (with_reducible refine (impl_valuation.calls k a0 t343 t344 _ A8.out).mono ?_); rintro e w' ⟨rfl, ⟨nd, rfl⟩⟩; refine ⟨_, rfl, ?_⟩; (try (rw [drewN_self w12]; generalize hq_ : World.drewN w12 _ = w12; replace BK340 := bq_ BK340 hq_; replace HB := hq_' HB hq_; clear hq_))) | ((refine gc_ 81 ?_); refine ge_ 29 Try.func81 #[.int .i64 a0, .int .i64 (wrap64 (6 - (ji9)))] ?_ (hargs := by (try simp only [List.map_toArray, List.map_cons, List.map_nil]); first | done | (simp only [hji9]; rfl) | rfl | (simp only [List.length_drop, List.length_take]; rfl)); (with_reducible refine (impl_power.calls k a0 (wrap64 (6 - (ji9))) t345 _ A10.out).mono ?_); rintro e w' ⟨rfl, ⟨nd, rfl⟩⟩; refine ⟨_, rfl, ?_⟩; (try (rw [drewN_self w12]; generalize hq_ : World.drewN w12 _ = w12; replace BK340 := bq_ BK340 hq_; replace HB := hq_' HB hq_; clear hq_)); obtain ⟨hcz13_0, hcz13_1, hcz13_2, hfz13_0, hfz13_1, hfz13_2⟩ := ch3_ BK340))
  refine bodyPost_ret (results_ct rfl _ _ gb340 31 #[.int .i64 a1, .int .i64 (wrap64 (Int.tdiv t343 t345)), .int .i64 ji9] (0, 0) _ rfl (bp_ BK340).out Try.underlying31 rfl (by kernel_rfl)) rfl ?_
  exact ⟨by first | rfl | (simp [errW_none, errW_some] <;> rfl) | (simp only [← hji9]; first | rfl | (simp [errW_none, errW_some] <;> rfl)) | (simp [*, errW_none, errW_some] <;> rfl), (bw_ HB).out⟩
 simp only [Option.some.injEq, Prod.mk.injEq] at H
 obtain ⟨rfl, rfl, rfl, rfl⟩ := H
 go_enter Try.func93, Try.ntmps93
 go_wp2_with (first | ((refine gd_ 6 ?_); refine by_ 6 #[.int .i64 0, .int .i64 0, .int .i64 0] 31 HB ?_; intro gb340 hg w14 BK340 hb GW340 HB_; replace HB := HB_; clear hb hg) | ((refine gc_ 90 ?_); refine ge_ 10 Try.func90 #[.int .i64 a1] ?_; (with_reducible refine (impl_isLevel.calls a1 false _ A4.out).mono ?_); rintro e w' ⟨rfl, ⟨nd, rfl⟩⟩; refine ⟨_, rfl, ?_⟩; (try (rw [drewN_self w14]; generalize hq_ : World.drewN w14 _ = w14; replace BK340 := bq_ BK340 hq_; replace HB := hq_' HB hq_; clear hq_)); obtain ⟨hcz15_0, hcz15_1, hcz15_2, hfz15_0, hfz15_1, hfz15_2⟩ := ch3_ BK340))
 refine bodyPost_ret (results_ct rfl _ _ gb340 31 #[.int .i64 0, .int .i64 0, .int .i64 0] (0, 0) _ rfl (bp_ BK340).out Try.underlying31 rfl (by kernel_rfl)) rfl ?_
 exact ⟨es_, (bw_ HB).out⟩
/-! ### impl_above: function 72 -/
def impl_above.f (k : Nat) (a0 a1_0 a1_1 a1_2 a2 : Int) : Option (Int × Int × Int) := (impl_mark.f k a0 a1_0 a1_1 a1_2).bind fun t348 => ((impl_ofMark.f k a0 a2 t348).bind fun bt349 => (some (bt349.1, bt349.2.1, bt349.2.2.1)))
theorem impl_above.calls (k : Nat) (a0 a1_0 a1_1 a1_2 a2 r1 r2 r3 : Int) (w : World) (h : impl_above.f k a0 a1_0 a1_1 a1_2 a2 = some (r1, r2, r3)) :
  Calls Try.prog 72 #[.int .i64 a0, .agg #[.int .i64 a1_0, .int .i64 a1_1, .int .i64 a1_2], .int .i64 a2] w fun e w' => e = .returned (.agg #[.int .i64 r1, .int .i64 r2, .int .i64 r3]) ∧ Below w.heap.size w w' := by
 have hu31 := Try.underlying31
 have HB := Aside0.mk (Below.refl w.heap.size w)
 unfold impl_above.f at h
 have H := h
 clear h
 replace H := oc_ H
 obtain ⟨t348, A4, H⟩ := H
 replace H := oc_ H
 obtain ⟨⟨t349, t350, t351, t352⟩, A5, H⟩ := H
 simp only [Option.some.injEq, Prod.mk.injEq] at H
 obtain ⟨rfl, rfl, rfl⟩ := H
 go_enter Try.func72, Try.ntmps72
 go_wp2_with (first | ((refine gd_ 4 ?_); refine by_ 4 #[.int .i64 a1_0, .int .i64 a1_1, .int .i64 a1_2] 31 HB ?_; intro gb346 hg w6 BK346 hb GW346 HB_; replace HB := HB_; clear hb hg) | ((refine gd_ 6 ?_); refine by_ 6 #[.int .i64 0, .int .i64 0, .int .i64 0] 31 HB ?_; intro gb347 hg w7 BK347 hb GW347 HB_; have NB346_347 := bm_ BK346 hg; have NB347_346 := bn_ BK346 hg; replace BK346 := bb_ BK346 hb; replace HB := HB_; clear hb hg; have hnb8 := NB346_347.out; have hnc8 := NB347_346.out; obtain ⟨hcz9_0, hcz9_1, hcz9_2, hfz9_0, hfz9_1, hfz9_2⟩ := ch3_ BK346) | ((refine gc_ 80 ?_); refine ge_ 14 Try.func80 #[.int .i64 a0, .agg #[.int .i64 a1_0, .int .i64 a1_1, .int .i64 a1_2]] ?_; (with_reducible refine (impl_mark.calls k a0 a1_0 a1_1 a1_2 t348 _ A4.out).mono ?_); rintro e w10 ⟨rfl, hb⟩; refine ⟨_, rfl, ?_⟩; replace BK346 := bb_ BK346 hb; replace BK347 := bb_ BK347 hb; replace HB := bt_ HB hb; (try clear hb)) | ((refine gc_ 93 ?_); refine ge_ 15 Try.func93 #[.int .i64 a0, .int .i64 a2, .int .i64 t348] ?_; (with_reducible refine (impl_ofMark.calls k a0 a2 t348 t349 t350 t351 t352 _ A5.out).mono ?_); rintro e w11 ⟨rfl, hb⟩; refine ⟨_, rfl, ?_⟩; replace BK346 := bb_ BK346 hb; replace BK347 := bb_ BK347 hb; replace HB := bt_ HB hb; (try clear hb)) | ((refine gd_ 7 ?_); refine by_ 7 #[.int .i64 0, .int .i64 0, .int .i64 0] 31 HB ?_; intro gb353 hg w12 BK353 hb GW353 HB_; have NB346_353 := bm_ BK346 hg; have NB353_346 := bn_ BK346 hg; have NB347_353 := bm_ BK347 hg; have NB353_347 := bn_ BK347 hg; replace BK346 := bb_ BK346 hb; replace BK347 := bb_ BK347 hb; replace HB := HB_; clear hb hg; have hnb13 := NB353_346.out; have hnc13 := NB346_353.out; have hnb14 := NB353_347.out; have hnc14 := NB347_353.out; obtain ⟨hcz15_0, hcz15_1, hcz15_2, hfz15_0, hfz15_1, hfz15_2⟩ := ch3_ BK353; obtain ⟨hcz16_0, hcz16_1, hcz16_2, hfz16_0, hfz16_1, hfz16_2⟩ := ch3_ BK347))
 refine bodyPost_ret (results_cell_row rfl _ _ gb347 31 #[.int .i64 t349, .int .i64 t350, .int .i64 t351] (0, 0) _ rfl (bp_ BK347).out Try.underlying31 rfl (by kernel_rfl)) rfl ?_
 exact ⟨es_, (bw_ HB).out⟩
end Go.Proofs.Ytdfcoebadjhjlaa.QF
