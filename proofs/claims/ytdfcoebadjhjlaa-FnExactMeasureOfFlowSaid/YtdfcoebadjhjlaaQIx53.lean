import Derived.Test.YtdfcoebadjhjlaaQIx5
import Derived.Test.YtdfcoebadjhjlaaQIx40
import Derived.Test.YtdfcoebadjhjlaaQIx51
import Derived.Test.YtdfcoebadjhjlaaQIx44
namespace Go.Proofs.Ytdfcoebadjhjlaa.QI
set_option maxHeartbeats 8000000
set_option maxRecDepth 100000
open Go.RowKit Go.Proofs.YtdfcoebadjhjlaaW.PrintWords Go.Proofs.YtdfcoebadjhjlaaW.PrintLast Go.Proofs.YtdfcoebadjhjlaaW.PrintMore
attribute [local go_sem] isSome_setCell max2_int min2_int max_two min_two max_three min_three max_four min_four
set_option linter.unusedVariables false
set_option linter.unusedSimpArgs false

/-! ### impl_ofMark: function 93 -/
def impl_ofMark.f (k : Nat) (a0 a1 a2 : Int) : Option (Int × Int × Int × Bool) := (impl_isLevel.f a1).bind fun t386 => (if t386 = true then ((impl_power.f k a0 (wrap64 (a1 + 6))).bind fun t387 => ((impl_mod.f a2 t387).bind fun t388 => ((impl_valuation.f k a0 t388).bind fun t389 => ((impl_power.f k a0 (wrap64 (6 - (mx (wrap64 (6 - t389)) 0)))).bind fun t390 => (if t390 = 0 then (none) else (some (a1, wrap64 (Int.tdiv t388 t390), mx (wrap64 (6 - t389)) 0, true))))))) else (some (0, 0, 0, false)))
theorem impl_ofMark.calls (k : Nat) (a0 a1 a2 r1 r2 r3 : Int) (r4 : Bool) (w : World) (h : impl_ofMark.f k a0 a1 a2 = some (r1, r2, r3, r4)) :
  Calls Try.prog 93 #[.int .i64 a0, .int .i64 a1, .int .i64 a2] w fun e w' => e = .returned (.tuple #[.agg #[.int .i64 r1, .int .i64 r2, .int .i64 r3], .bool r4]) ∧ Below w.heap.size w w' := by
 have hu31 := Try.underlying31
 have HB := Aside0.mk (Below.refl w.heap.size w)
 unfold impl_ofMark.f at h
 have H := h
 clear h
 replace H := oc_ H
 obtain ⟨t386, A4, H⟩ := H
 replace H := ib_ H
 rcases H with ⟨rfl, H⟩ | ⟨rfl, H⟩
 ·replace H := oc_ H
  obtain ⟨t387, A6, H⟩ := H
  replace H := oc_ H
  obtain ⟨t388, A7, H⟩ := H
  replace H := oc_ H
  obtain ⟨t389, A8, H⟩ := H
  obtain ⟨ji9, hji9⟩ : ∃ j_ : Int, (mx (wrap64 (6 - t389)) 0) = j_ := ⟨_, rfl⟩
  replace H : ((impl_power.f k a0 (wrap64 (6 - (ji9)))).bind fun t390 => (if t390 = 0 then (none) else (some (a1, wrap64 (Int.tdiv t388 t390), ji9, true)))) = some (r1, r2, r3, r4) := by first | (rw [hji9] at H; exact H) | (simp only [hji9] at H ⊢; exact H)
  (try rw [hji9] at A4)
  (try rw [hji9] at A6)
  (try rw [hji9] at A7)
  (try rw [hji9] at A8)
  (try (have hji9l : 0 ≤ ji9 := by (rw [← hji9]; unfold mx; (repeat' split) <;> omega)))
  (try (have hji9m : 0 ≤ ji9 := by omega))
  have hji9_ : (if (wrap64 (6 - t389)) < 0 then 0 else (wrap64 (6 - t389))) = ji9 := hji9
  replace H := oc_ H
  obtain ⟨t390, A10, H⟩ := H
  replace H := ief_ H
  obtain ⟨c11, c11b0, c11b1, H⟩ := H
  simp only [Option.some.injEq, Prod.mk.injEq] at H
  obtain ⟨rfl, rfl, rfl, rfl⟩ := H
  go_enter Try.func93, Try.ntmps93
  go_wp2_with (first | ((refine gd_ 6 ?_); refine by_ 6 #[.int .i64 0, .int .i64 0, .int .i64 0] 31 HB ?_; intro gb385 hg w12 BK385 hb GW385 HB_; replace HB := HB_; clear hb hg) | ((refine gc_ 90 ?_); refine ge_ 10 Try.func90 #[.int .i64 a1] ?_; (with_reducible refine (impl_isLevel.calls a1 true _ A4.out).mono ?_); rintro e w' ⟨rfl, ⟨nd, rfl⟩⟩; refine ⟨_, rfl, ?_⟩; (try (rw [drewN_self w12]; generalize hq_ : World.drewN w12 _ = w12; replace BK385 := bq_ BK385 hq_; replace HB := hq_' HB hq_; clear hq_))) | ((refine gc_ 81 ?_); refine ge_ 17 Try.func81 #[.int .i64 a0, .int .i64 (wrap64 (a1 + 6))] ?_; (with_reducible refine (impl_power.calls k a0 (wrap64 (a1 + 6)) t387 _ A6.out).mono ?_); rintro e w' ⟨rfl, ⟨nd, rfl⟩⟩; refine ⟨_, rfl, ?_⟩; (try (rw [drewN_self w12]; generalize hq_ : World.drewN w12 _ = w12; replace BK385 := bq_ BK385 hq_; replace HB := hq_' HB hq_; clear hq_))) | ((refine gc_ 102 ?_); refine ge_ 18 Try.func102 #[.int .i64 a2, .int .i64 t387] ?_; (with_reducible refine (impl_mod.calls a2 t387 t388 _ A7.out).mono ?_); rintro e w' ⟨rfl, ⟨nd, rfl⟩⟩; refine ⟨_, rfl, ?_⟩; (try (rw [drewN_self w12]; generalize hq_ : World.drewN w12 _ = w12; replace BK385 := bq_ BK385 hq_; replace HB := hq_' HB hq_; clear hq_))) | ((refine gc_ 103 ?_); refine ge_ 21 Try.func103 #[.int .i64 a0, .int .i64 t388] ?_; (with_reducible refine (impl_valuation.calls k a0 t388 t389 _ A8.out).mono ?_); rintro e w' ⟨rfl, ⟨nd, rfl⟩⟩; refine ⟨_, rfl, ?_⟩; (try (rw [drewN_self w12]; generalize hq_ : World.drewN w12 _ = w12; replace BK385 := bq_ BK385 hq_; replace HB := hq_' HB hq_; clear hq_))) | ((refine gc_ 81 ?_); refine ge_ 29 Try.func81 #[.int .i64 a0, .int .i64 (wrap64 (6 - (ji9)))] ?_ (hargs := by (try simp only [List.map_toArray, List.map_cons, List.map_nil]); first | done | (simp only [hji9]; rfl) | rfl | (simp only [List.length_drop, List.length_take]; rfl)); (with_reducible refine (impl_power.calls k a0 (wrap64 (6 - (ji9))) t390 _ A10.out).mono ?_); rintro e w' ⟨rfl, ⟨nd, rfl⟩⟩; refine ⟨_, rfl, ?_⟩; (try (rw [drewN_self w12]; generalize hq_ : World.drewN w12 _ = w12; replace BK385 := bq_ BK385 hq_; replace HB := hq_' HB hq_; clear hq_)); obtain ⟨hcz13_0, hcz13_1, hcz13_2, hfz13_0, hfz13_1, hfz13_2⟩ := ch3_ BK385))
  refine bodyPost_ret (results_ct rfl _ _ gb385 31 #[.int .i64 a1, .int .i64 (wrap64 (Int.tdiv t388 t390)), .int .i64 ji9] (0, 0) _ rfl (bp_ BK385).out Try.underlying31 rfl (by kernel_rfl)) rfl ?_
  exact ⟨by first | rfl | (simp [errW_none, errW_some] <;> rfl) | (simp only [← hji9]; first | rfl | (simp [errW_none, errW_some] <;> rfl)) | (simp [*, errW_none, errW_some] <;> rfl), (bw_ HB).out⟩
 simp only [Option.some.injEq, Prod.mk.injEq] at H
 obtain ⟨rfl, rfl, rfl, rfl⟩ := H
 go_enter Try.func93, Try.ntmps93
 go_wp2_with (first | ((refine gd_ 6 ?_); refine by_ 6 #[.int .i64 0, .int .i64 0, .int .i64 0] 31 HB ?_; intro gb385 hg w14 BK385 hb GW385 HB_; replace HB := HB_; clear hb hg) | ((refine gc_ 90 ?_); refine ge_ 10 Try.func90 #[.int .i64 a1] ?_; (with_reducible refine (impl_isLevel.calls a1 false _ A4.out).mono ?_); rintro e w' ⟨rfl, ⟨nd, rfl⟩⟩; refine ⟨_, rfl, ?_⟩; (try (rw [drewN_self w14]; generalize hq_ : World.drewN w14 _ = w14; replace BK385 := bq_ BK385 hq_; replace HB := hq_' HB hq_; clear hq_)); obtain ⟨hcz15_0, hcz15_1, hcz15_2, hfz15_0, hfz15_1, hfz15_2⟩ := ch3_ BK385))
 refine bodyPost_ret (results_ct rfl _ _ gb385 31 #[.int .i64 0, .int .i64 0, .int .i64 0] (0, 0) _ rfl (bp_ BK385).out Try.underlying31 rfl (by kernel_rfl)) rfl ?_
 exact ⟨es_, (bw_ HB).out⟩
/-! ### impl_above: function 72 -/
def impl_above.f (k : Nat) (a0 a1_0 a1_1 a1_2 a2 : Int) : Option (Int × Int × Int) := (impl_mark.f k a0 a1_0 a1_1 a1_2).bind fun t393 => ((impl_ofMark.f k a0 a2 t393).bind fun bt394 => (some (bt394.1, bt394.2.1, bt394.2.2.1)))
theorem impl_above.calls (k : Nat) (a0 a1_0 a1_1 a1_2 a2 r1 r2 r3 : Int) (w : World) (h : impl_above.f k a0 a1_0 a1_1 a1_2 a2 = some (r1, r2, r3)) :
  Calls Try.prog 72 #[.int .i64 a0, .agg #[.int .i64 a1_0, .int .i64 a1_1, .int .i64 a1_2], .int .i64 a2] w fun e w' => e = .returned (.agg #[.int .i64 r1, .int .i64 r2, .int .i64 r3]) ∧ Below w.heap.size w w' := by
 have hu31 := Try.underlying31
 have HB := Aside0.mk (Below.refl w.heap.size w)
 unfold impl_above.f at h
 have H := h
 clear h
 replace H := oc_ H
 obtain ⟨t393, A4, H⟩ := H
 replace H := oc_ H
 obtain ⟨⟨t394, t395, t396, t397⟩, A5, H⟩ := H
 simp only [Option.some.injEq, Prod.mk.injEq] at H
 obtain ⟨rfl, rfl, rfl⟩ := H
 go_enter Try.func72, Try.ntmps72
 go_wp2_with (first | ((refine gd_ 4 ?_); refine by_ 4 #[.int .i64 a1_0, .int .i64 a1_1, .int .i64 a1_2] 31 HB ?_; intro gb391 hg w6 BK391 hb GW391 HB_; replace HB := HB_; clear hb hg) | ((refine gd_ 6 ?_); refine by_ 6 #[.int .i64 0, .int .i64 0, .int .i64 0] 31 HB ?_; intro gb392 hg w7 BK392 hb GW392 HB_; have NB391_392 := bm_ BK391 hg; have NB392_391 := bn_ BK391 hg; replace BK391 := bb_ BK391 hb; replace HB := HB_; clear hb hg; have hnb8 := NB391_392.out; have hnc8 := NB392_391.out; obtain ⟨hcz9_0, hcz9_1, hcz9_2, hfz9_0, hfz9_1, hfz9_2⟩ := ch3_ BK391) | ((refine gc_ 80 ?_); refine ge_ 14 Try.func80 #[.int .i64 a0, .agg #[.int .i64 a1_0, .int .i64 a1_1, .int .i64 a1_2]] ?_; (with_reducible refine (impl_mark.calls k a0 a1_0 a1_1 a1_2 t393 _ A4.out).mono ?_); rintro e w10 ⟨rfl, hb⟩; refine ⟨_, rfl, ?_⟩; replace BK391 := bb_ BK391 hb; replace BK392 := bb_ BK392 hb; replace HB := bt_ HB hb; (try clear hb)) | ((refine gc_ 93 ?_); refine ge_ 15 Try.func93 #[.int .i64 a0, .int .i64 a2, .int .i64 t393] ?_; (with_reducible refine (impl_ofMark.calls k a0 a2 t393 t394 t395 t396 t397 _ A5.out).mono ?_); rintro e w11 ⟨rfl, hb⟩; refine ⟨_, rfl, ?_⟩; replace BK391 := bb_ BK391 hb; replace BK392 := bb_ BK392 hb; replace HB := bt_ HB hb; (try clear hb)) | ((refine gd_ 7 ?_); refine by_ 7 #[.int .i64 0, .int .i64 0, .int .i64 0] 31 HB ?_; intro gb398 hg w12 BK398 hb GW398 HB_; have NB391_398 := bm_ BK391 hg; have NB398_391 := bn_ BK391 hg; have NB392_398 := bm_ BK392 hg; have NB398_392 := bn_ BK392 hg; replace BK391 := bb_ BK391 hb; replace BK392 := bb_ BK392 hb; replace HB := HB_; clear hb hg; have hnb13 := NB398_391.out; have hnc13 := NB391_398.out; have hnb14 := NB398_392.out; have hnc14 := NB392_398.out; obtain ⟨hcz15_0, hcz15_1, hcz15_2, hfz15_0, hfz15_1, hfz15_2⟩ := ch3_ BK398; obtain ⟨hcz16_0, hcz16_1, hcz16_2, hfz16_0, hfz16_1, hfz16_2⟩ := ch3_ BK392))
 refine bodyPost_ret (results_cell_row rfl _ _ gb392 31 #[.int .i64 t394, .int .i64 t395, .int .i64 t396] (0, 0) _ rfl (bp_ BK392).out Try.underlying31 rfl (by kernel_rfl)) rfl ?_
 exact ⟨es_, (bw_ HB).out⟩
end Go.Proofs.Ytdfcoebadjhjlaa.QI
