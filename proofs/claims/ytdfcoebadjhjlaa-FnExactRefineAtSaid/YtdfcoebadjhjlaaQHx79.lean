import Derived.Test.YtdfcoebadjhjlaaQHx7
import Derived.Test.YtdfcoebadjhjlaaQHx44
import Derived.Test.YtdfcoebadjhjlaaQHx74
namespace Go.Proofs.Ytdfcoebadjhjlaa.QH
set_option maxHeartbeats 8000000
set_option maxRecDepth 100000
open Go.RowKit Go.Proofs.YtdfcoebadjhjlaaW.PrintWords Go.Proofs.YtdfcoebadjhjlaaW.PrintLast Go.Proofs.YtdfcoebadjhjlaaW.PrintMore
attribute [local go_sem] isSome_setCell max2_int min2_int max_two min_two max_three min_three max_four min_four
set_option linter.unusedVariables false
set_option linter.unusedSimpArgs false

/-! ### impl_ofMark: function 93 -/
def impl_ofMark.f (k : Nat) (a0 a1 a2 : Int) : Option (Int × Int × Int × Bool) := (impl_isLevel.f a1).bind fun t406 => (if t406 = true then ((impl_power.f k a0 (wrap64 (a1 + 6))).bind fun t407 => ((impl_mod.f a2 t407).bind fun t408 => ((impl_valuation.f k a0 t408).bind fun t409 => ((impl_power.f k a0 (wrap64 (6 - (mx (wrap64 (6 - t409)) 0)))).bind fun t410 => (if t410 = 0 then (none) else (some (a1, wrap64 (Int.tdiv t408 t410), mx (wrap64 (6 - t409)) 0, true))))))) else (some (0, 0, 0, false)))
theorem impl_ofMark.calls (k : Nat) (a0 a1 a2 r1 r2 r3 : Int) (r4 : Bool) (w : World) (h : impl_ofMark.f k a0 a1 a2 = some (r1, r2, r3, r4)) :
  Calls Try.prog 93 #[.int .i64 a0, .int .i64 a1, .int .i64 a2] w fun e w' => e = .returned (.tuple #[.agg #[.int .i64 r1, .int .i64 r2, .int .i64 r3], .bool r4]) ∧ Below w.heap.size w w' := by
 have hu31 := Try.underlying31
 have HB := Aside0.mk (Below.refl w.heap.size w)
 unfold impl_ofMark.f at h
 have H := h
 clear h
 replace H := oc_ H
 obtain ⟨t406, A4, H⟩ := H
 replace H := ib_ H
 rcases H with ⟨rfl, H⟩ | ⟨rfl, H⟩
 ·replace H := oc_ H
  obtain ⟨t407, A6, H⟩ := H
  replace H := oc_ H
  obtain ⟨t408, A7, H⟩ := H
  replace H := oc_ H
  obtain ⟨t409, A8, H⟩ := H
  obtain ⟨ji9, hji9⟩ : ∃ j_ : Int, (mx (wrap64 (6 - t409)) 0) = j_ := ⟨_, rfl⟩
  replace H : ((impl_power.f k a0 (wrap64 (6 - (ji9)))).bind fun t410 => (if t410 = 0 then (none) else (some (a1, wrap64 (Int.tdiv t408 t410), ji9, true)))) = some (r1, r2, r3, r4) := by first | (rw [hji9] at H; exact H) | (simp only [hji9] at H ⊢; exact H)
  (try rw [hji9] at A4)
  (try rw [hji9] at A6)
  (try rw [hji9] at A7)
  (try rw [hji9] at A8)
  (try (have hji9l : 0 ≤ ji9 := by (rw [← hji9]; unfold mx; (repeat' split) <;> omega)))
  (try (have hji9m : 0 ≤ ji9 := by omega))
  have hji9_ : (if (wrap64 (6 - t409)) < 0 then 0 else (wrap64 (6 - t409))) = ji9 := hji9
  replace H := oc_ H
  obtain ⟨t410, A10, H⟩ := H
  replace H := ief_ H
  obtain ⟨c11, c11b0, c11b1, H⟩ := H
  simp only [Option.some.injEq, Prod.mk.injEq] at H
  obtain ⟨rfl, rfl, rfl, rfl⟩ := H
  go_enter Try.func93, Try.ntmps93
  go_wp2_with (first | ((refine gd_ 6 ?_); refine by_ 6 #[.int .i64 0, .int .i64 0, .int .i64 0] 31 HB ?_; intro gb405 hg w12 BK405 hb GW405 HB_; replace HB := HB_; clear hb hg) | ((refine gc_ 90 ?_); refine ge_ 10 Try.func90 #[.int .i64 a1] ?_; (with_reducible refine (impl_isLevel.calls a1 true _ A4.out).mono ?_); rintro e w' ⟨rfl, ⟨nd, rfl⟩⟩; refine ⟨_, rfl, ?_⟩; (try (rw [drewN_self w12]; generalize hq_ : World.drewN w12 _ = w12; replace BK405 := bq_ BK405 hq_; replace HB := hq_' HB hq_; clear hq_))) | ((refine gc_ 81 ?_); refine ge_ 17 Try.func81 #[.int .i64 a0, .int .i64 (wrap64 (a1 + 6))] ?_; (with_reducible refine (impl_power.calls k a0 (wrap64 (a1 + 6)) t407 _ A6.out).mono ?_); rintro e w' ⟨rfl, ⟨nd, rfl⟩⟩; refine ⟨_, rfl, ?_⟩; (try (rw [drewN_self w12]; generalize hq_ : World.drewN w12 _ = w12; replace BK405 := bq_ BK405 hq_; replace HB := hq_' HB hq_; clear hq_))) | ((refine gc_ 102 ?_); refine ge_ 18 Try.func102 #[.int .i64 a2, .int .i64 t407] ?_; (with_reducible refine (impl_mod.calls a2 t407 t408 _ A7.out).mono ?_); rintro e w' ⟨rfl, ⟨nd, rfl⟩⟩; refine ⟨_, rfl, ?_⟩; (try (rw [drewN_self w12]; generalize hq_ : World.drewN w12 _ = w12; replace BK405 := bq_ BK405 hq_; replace HB := hq_' HB hq_; clear hq_))) | ((refine gc_ 103 ?_); refine ge_ 21 Try.func103 #[.int .i64 a0, .int .i64 t408] ?_; (with_reducible refine (impl_valuation.calls k a0 t408 t409 _ A8.out).mono ?_); rintro e w' ⟨rfl, ⟨nd, rfl⟩⟩; refine ⟨_, rfl, ?_⟩; (try (rw [drewN_self w12]; generalize hq_ : World.drewN w12 _ = w12; replace BK405 := bq_ BK405 hq_; replace HB := hq_' HB hq_; clear hq_))) | ((refine gc_ 81 ?_); refine ge_ 29 Try.func81 #[.int .i64 a0, .int .i64 (wrap64 (6 - (ji9)))] ?_ (hargs := by (try simp only [List.map_toArray, List.map_cons, List.map_nil]); first | done | (simp only [hji9]; rfl) | rfl | (simp only [List.length_drop, List.length_take]; rfl)); (with_reducible refine (impl_power.calls k a0 (wrap64 (6 - (ji9))) t410 _ A10.out).mono ?_); rintro e w' ⟨rfl, ⟨nd, rfl⟩⟩; refine ⟨_, rfl, ?_⟩; (try (rw [drewN_self w12]; generalize hq_ : World.drewN w12 _ = w12; replace BK405 := bq_ BK405 hq_; replace HB := hq_' HB hq_; clear hq_)); obtain ⟨hcz13_0, hcz13_1, hcz13_2, hfz13_0, hfz13_1, hfz13_2⟩ := ch3_ BK405))
  refine bodyPost_ret (results_ct rfl _ _ gb405 31 #[.int .i64 a1, .int .i64 (wrap64 (Int.tdiv t408 t410)), .int .i64 ji9] (0, 0) _ rfl (bp_ BK405).out Try.underlying31 rfl (by kernel_rfl)) rfl ?_
  exact ⟨by first | rfl | (simp [errW_none, errW_some] <;> rfl) | (simp only [← hji9]; first | rfl | (simp [errW_none, errW_some] <;> rfl)) | (simp [*, errW_none, errW_some] <;> rfl), (bw_ HB).out⟩
 simp only [Option.some.injEq, Prod.mk.injEq] at H
 obtain ⟨rfl, rfl, rfl, rfl⟩ := H
 go_enter Try.func93, Try.ntmps93
 go_wp2_with (first | ((refine gd_ 6 ?_); refine by_ 6 #[.int .i64 0, .int .i64 0, .int .i64 0] 31 HB ?_; intro gb405 hg w14 BK405 hb GW405 HB_; replace HB := HB_; clear hb hg) | ((refine gc_ 90 ?_); refine ge_ 10 Try.func90 #[.int .i64 a1] ?_; (with_reducible refine (impl_isLevel.calls a1 false _ A4.out).mono ?_); rintro e w' ⟨rfl, ⟨nd, rfl⟩⟩; refine ⟨_, rfl, ?_⟩; (try (rw [drewN_self w14]; generalize hq_ : World.drewN w14 _ = w14; replace BK405 := bq_ BK405 hq_; replace HB := hq_' HB hq_; clear hq_)); obtain ⟨hcz15_0, hcz15_1, hcz15_2, hfz15_0, hfz15_1, hfz15_2⟩ := ch3_ BK405))
 refine bodyPost_ret (results_ct rfl _ _ gb405 31 #[.int .i64 0, .int .i64 0, .int .i64 0] (0, 0) _ rfl (bp_ BK405).out Try.underlying31 rfl (by kernel_rfl)) rfl ?_
 exact ⟨es_, (bw_ HB).out⟩
/-! ### impl_parent: function 100 -/
def impl_parent.f (k : Nat) (a0 a1_0 a1_1 a1_2 : Int) : Option (Int × Int × Int × Bool) := (impl_mark.f k a0 a1_0 a1_1 a1_2).bind fun t413 => ((impl_ofMark.f k a0 (wrap64 (a1_0 - 1)) t413).bind fun bt414 => (some (bt414.1, bt414.2.1, bt414.2.2.1, bt414.2.2.2)))
def impl_parent.T1 : Bool × List (List Nat × List Nat) := (true, [([], []), ([], []), ([1], [1]), ([2], [2]), ([], []), ([], []), ([4, 5], [4, 5]), ([0, 3, 6, 6], [0, 3, 6]), ([7], [7]), ([7], [7]), ([8, 7, 0, 1, 2, 3, 4, 5, 6, 7, 8, 9], [8]), ([9, 10, 0, 1, 2, 3, 4, 5, 6, 7, 8, 9, 10], [9])])
def impl_parent.B1 : List Nat := [0, 0, 2, 6, 0, 0, 48, 127, 255, 255, 1023, 2047]
theorem impl_parent.tab1 : rtab .any (opsOf Try.f100 1) = impl_parent.T1 := by kernel_rfl
theorem impl_parent.bits1 : waitsOk impl_parent.T1.2 impl_parent.B1 = true := by kernel_rfl
theorem impl_parent.calls (k : Nat) (a0 a1_0 a1_1 a1_2 r1 r2 r3 : Int) (r4 : Bool) (w : World) (h : impl_parent.f k a0 a1_0 a1_1 a1_2 = some (r1, r2, r3, r4)) :
  Calls Try.prog 100 #[.int .i64 a0, .agg #[.int .i64 a1_0, .int .i64 a1_1, .int .i64 a1_2]] w fun e w' => e = .returned (.tuple #[.agg #[.int .i64 r1, .int .i64 r2, .int .i64 r3], .bool r4]) ∧ Below w.heap.size w w' := by
 have hu31 := Try.underlying31
 have HB := Aside0.mk (Below.refl w.heap.size w)
 unfold impl_parent.f at h
 have H := h
 clear h
 replace H := oc_ H
 obtain ⟨t413, A3, H⟩ := H
 replace H := oc_ H
 obtain ⟨⟨t414, t415, t416, t417⟩, A4, H⟩ := H
 simp only [Option.some.injEq, Prod.mk.injEq] at H
 obtain ⟨rfl, rfl, rfl, rfl⟩ := H
 go_enter Try.func100, Try.ntmps100
 try go_wp2_with (first | ((refine gd_ 3 ?_); refine by_ 3 #[.int .i64 a1_0, .int .i64 a1_1, .int .i64 a1_2] 31 HB ?_; intro gb411 hg w5 BK411 hb GW411 HB_; replace HB := HB_; clear hb hg) | ((refine gd_ 4 ?_); refine by_ 4 #[.int .i64 0, .int .i64 0, .int .i64 0] 31 HB ?_; intro gb412 hg w6 BK412 hb GW412 HB_; have NB411_412 := bm_ BK411 hg; have NB412_411 := bn_ BK411 hg; replace BK411 := bb_ BK411 hb; replace HB := HB_; clear hb hg))
 replace BK411 := bd_ BK411
 replace BK412 := bd_ BK412
 replace HB := be_ HB
 refine start_ (n := 12) (S := fun w' => w'.cell? ⟨gb411, 0, none⟩ = some (.int .i64 a1_0) ∧ w'.cell? ⟨gb411, 1, none⟩ = some (.int .i64 a1_1) ∧ w'.cell? ⟨gb411, 2, none⟩ = some (.int .i64 a1_2)) (ds := []) (bv_ 12 0) (by kernel_rfl) rfl rfl ⟨cz_ BK411 0, cz_ BK411 1, cz_ BK411 2⟩ (fun hHeld => ?_); refine with_tabW impl_parent.tab1 impl_parent.bits1 (fun HT_ HW_ => ?_)
 generalize w6.drew = w7 at BK411 BK412 HB hHeld ⊢
 refine px_ HT_ 0 6 1 ?_
 refine px_ HT_ 1 7 3 ?_
 refine px_ HT_ 4 10 19 ?_
 refine ta_ HT_ HW_ 2 (some 8) (bv_ 12 23) hHeld ?_ (hy := by rintro w' ⟨s0, s1, s2⟩; go_simp; with_reducible rfl)
 refine px_ HT_ 3 9 31 ?_
 refine ta_ HT_ HW_ 5 (some 11) (bv_ 12 63) hHeld ?_ (hy := by rintro w' ⟨s0, s1, s2⟩; go_simp; with_reducible rfl)
 refine on_ HT_ 6 (some 12) (bv_ 12 127) (fun K hK => ?_)
 refine gs_ Try.func80 #[.int .i64 a0, .agg #[.int .i64 a1_0, .int .i64 a1_1, .int .i64 a1_2]] ?_
 with_reducible refine (impl_mark.calls k a0 a1_0 a1_1 a1_2 t413 _ A3.out).mono ?_
 rintro e w8 ⟨rfl, hb⟩
 refine ⟨_, rfl, ?_⟩
 replace BK411 := bb_ BK411 hb
 replace BK412 := bb_ BK412 hb
 replace HB := bt_ HB hb
 try clear hb
 refine hK.out _ _ ⟨cz_ BK411 0, cz_ BK411 1, cz_ BK411 2⟩ (fun hHeld => ?_)
 clear hK K
 refine nm_ (some 12) ?_
 refine on_ HT_ 7 (some 13) (bv_ 12 255) (fun K hK => ?_)
 refine gs_ Try.func93 #[.int .i64 a0, .int .i64 (wrap64 (a1_0 - 1)), .int .i64 t413] ?_
 with_reducible refine (impl_ofMark.calls k a0 (wrap64 (a1_0 - 1)) t413 t414 t415 t416 t417 _ A4.out).mono ?_
 rintro e w9 ⟨rfl, hb⟩
 refine ⟨_, rfl, ?_⟩
 replace BK411 := bb_ BK411 hb
 replace BK412 := bb_ BK412 hb
 replace HB := bt_ HB hb
 try clear hb
 refine hK.out _ _ ⟨cz_ BK411 0, cz_ BK411 1, cz_ BK411 2⟩ (fun hHeld => ?_)
 clear hK K
 refine nm_ (some 13) ?_
 refine px_ HT_ 8 14 511 ?_
 refine px_ HT_ 9 15 1023 ?_
 refine on_ HT_ 10 none (bv_ 12 2047) (fun K hK => ?_)
 have hs10 : w9.cell? ⟨gb412, 0, none⟩ = some (.int .i64 0) := (blk_cell BK412.out 0).trans rfl
 have hfs10 := blk_frozen BK412.out 0
 have hns10_0 := NB411_412.out
 have hms10_0 := NB412_411.out
 have hs11 : w9.cell? ⟨gb412, 1, none⟩ = some (.int .i64 0) := (blk_cell BK412.out 1).trans rfl
 have hfs11 := blk_frozen BK412.out 1
 have hns11_0 := NB411_412.out
 have hms11_0 := NB412_411.out
 have hs12 : w9.cell? ⟨gb412, 2, none⟩ = some (.int .i64 0) := (blk_cell BK412.out 2).trans rfl
 have hfs12 := blk_frozen BK412.out 2
 have hns12_0 := NB411_412.out
 have hms12_0 := NB412_411.out
 refine skip_ (w1 := ?_) (by rfl) rfl ?_ ?_
 rotate_left
 ·go_simp
  rfl
 refine hK.out _ _ ⟨(cg_ NB411_412 ((cg_ NB411_412 ((cg_ NB411_412 (hHeld.1)))))), (cg_ NB411_412 ((cg_ NB411_412 ((cg_ NB411_412 (hHeld.2.1)))))), (cg_ NB411_412 ((cg_ NB411_412 ((cg_ NB411_412 (hHeld.2.2))))))⟩ (fun hHeld => ?_)
 clear hK K
 refine px_ HT_ 11 5 4095 ?_
 refine done_ (done_of HT_.out (by kernel_rfl)) ?_
 try go_wp2
 refine bodyPost_ret (results_ct rfl _ _ gb412 31 #[.int .i64 t414, .int .i64 t415, .int .i64 t416] (0, 0) _ rfl (bp_ BK412).out Try.underlying31 rfl (by kernel_rfl)) rfl ?_
 exact ⟨es_, (bw_ HB).out⟩
/-! ### impl_child: function 101 -/
def impl_child.f (k : Nat) (a0 a1_0 a1_1 a1_2 a2 : Int) : Option (Int × Int × Int × Bool) := (impl_mark.f k a0 a1_0 a1_1 a1_2).bind fun t420 => ((impl_power.f k a0 (wrap64 (a1_0 + 6))).bind fun t421 => ((impl_ofMark.f k a0 (wrap64 (a1_0 + 1)) (wrap64 (t420 + (wrap64 (a2 * t421))))).bind fun bt422 => (some (bt422.1, bt422.2.1, bt422.2.2.1, bt422.2.2.2))))
def impl_child.T1 : Bool × List (List Nat × List Nat) := (true, [([], []), ([], []), ([1], [1]), ([2], [2]), ([], []), ([], []), ([4, 5], [4, 5]), ([], []), ([], []), ([], []), ([9], [9]), ([10], [10]), ([8, 11, 6], [8, 11]), ([7, 12], [7, 12]), ([6, 13], [6, 13]), ([0, 3, 14, 12], [0, 3, 14]), ([15], [15]), ([15], [15]), ([16, 15, 0, 1, 2, 3, 4, 5, 6, 7, 8, 9, 10, 11, 12, 13, 14, 15, 16, 17], [16]), ([17, 18, 0, 1, 2, 3, 4, 5, 6, 7, 8, 9, 10, 11, 12, 13, 14, 15, 16, 17, 18], [17])])
def impl_child.B1 : List Nat := [0, 0, 2, 6, 0, 0, 48, 0, 0, 0, 512, 1536, 3952, 8176, 16368, 32767, 65535, 65535, 262143, 524287]
theorem impl_child.tab1 : rtab .any (opsOf Try.f101 1) = impl_child.T1 := by kernel_rfl
theorem impl_child.bits1 : waitsOk impl_child.T1.2 impl_child.B1 = true := by kernel_rfl
theorem impl_child.calls (k : Nat) (a0 a1_0 a1_1 a1_2 a2 r1 r2 r3 : Int) (r4 : Bool) (w : World) (h : impl_child.f k a0 a1_0 a1_1 a1_2 a2 = some (r1, r2, r3, r4)) :
  Calls Try.prog 101 #[.int .i64 a0, .agg #[.int .i64 a1_0, .int .i64 a1_1, .int .i64 a1_2], .int .i64 a2] w fun e w' => e = .returned (.tuple #[.agg #[.int .i64 r1, .int .i64 r2, .int .i64 r3], .bool r4]) ∧ Below w.heap.size w w' := by
 have hu31 := Try.underlying31
 have HB := Aside0.mk (Below.refl w.heap.size w)
 unfold impl_child.f at h
 have H := h
 clear h
 replace H := oc_ H
 obtain ⟨t420, A4, H⟩ := H
 replace H := oc_ H
 obtain ⟨t421, A5, H⟩ := H
 replace H := oc_ H
 obtain ⟨⟨t422, t423, t424, t425⟩, A6, H⟩ := H
 simp only [Option.some.injEq, Prod.mk.injEq] at H
 obtain ⟨rfl, rfl, rfl, rfl⟩ := H
 go_enter Try.func101, Try.ntmps101
 try go_wp2_with (first | ((refine gd_ 4 ?_); refine by_ 4 #[.int .i64 a1_0, .int .i64 a1_1, .int .i64 a1_2] 31 HB ?_; intro gb418 hg w7 BK418 hb GW418 HB_; replace HB := HB_; clear hb hg) | ((refine gd_ 6 ?_); refine by_ 6 #[.int .i64 0, .int .i64 0, .int .i64 0] 31 HB ?_; intro gb419 hg w8 BK419 hb GW419 HB_; have NB418_419 := bm_ BK418 hg; have NB419_418 := bn_ BK418 hg; replace BK418 := bb_ BK418 hb; replace HB := HB_; clear hb hg))
 replace BK418 := bd_ BK418
 replace BK419 := bd_ BK419
 replace HB := be_ HB
 refine start_ (n := 20) (S := fun w' => w'.cell? ⟨gb418, 0, none⟩ = some (.int .i64 a1_0) ∧ w'.cell? ⟨gb418, 1, none⟩ = some (.int .i64 a1_1) ∧ w'.cell? ⟨gb418, 2, none⟩ = some (.int .i64 a1_2)) (ds := []) (bv_ 20 0) (by kernel_rfl) rfl rfl ⟨cz_ BK418 0, cz_ BK418 1, cz_ BK418 2⟩ (fun hHeld => ?_); refine with_tabW impl_child.tab1 impl_child.bits1 (fun HT_ HW_ => ?_)
 generalize w8.drew = w9 at BK418 BK419 HB hHeld ⊢
 refine px_ HT_ 0 8 1 ?_
 refine px_ HT_ 1 9 3 ?_
 refine px_ HT_ 4 12 19 ?_
 refine px_ HT_ 7 15 147 ?_
 refine px_ HT_ 8 16 403 ?_
 refine px_ HT_ 9 17 915 ?_
 refine ta_ HT_ HW_ 2 (some 10) (bv_ 20 919) hHeld ?_ (hy := by rintro w' ⟨s0, s1, s2⟩; go_simp; with_reducible rfl)
 refine px_ HT_ 3 11 927 ?_
 refine ta_ HT_ HW_ 5 (some 13) (bv_ 20 959) hHeld ?_ (hy := by rintro w' ⟨s0, s1, s2⟩; go_simp; with_reducible rfl)
 refine ta_ HT_ HW_ 10 (some 18) (bv_ 20 1983) hHeld ?_ (hy := by rintro w' ⟨s0, s1, s2⟩; go_simp; with_reducible rfl)
 refine px_ HT_ 11 19 4031 ?_
 refine on_ HT_ 6 (some 14) (bv_ 20 4095) (fun K hK => ?_)
 refine gs_ Try.func80 #[.int .i64 a0, .agg #[.int .i64 a1_0, .int .i64 a1_1, .int .i64 a1_2]] ?_
 with_reducible refine (impl_mark.calls k a0 a1_0 a1_1 a1_2 t420 _ A4.out).mono ?_
 rintro e w10 ⟨rfl, hb⟩
 refine ⟨_, rfl, ?_⟩
 replace BK418 := bb_ BK418 hb
 replace BK419 := bb_ BK419 hb
 replace HB := bt_ HB hb
 try clear hb
 refine hK.out _ _ ⟨cz_ BK418 0, cz_ BK418 1, cz_ BK418 2⟩ (fun hHeld => ?_)
 clear hK K
 refine nm_ (some 14) ?_
 refine on_ HT_ 12 (some 20) (bv_ 20 8191) (fun K hK => ?_)
 refine gs_ Try.func81 #[.int .i64 a0, .int .i64 (wrap64 (a1_0 + 6))] ?_
 with_reducible refine (impl_power.calls k a0 (wrap64 (a1_0 + 6)) t421 _ A5.out).mono ?_
 rintro e w' ⟨rfl, ⟨nd, rfl⟩⟩
 refine ⟨_, rfl, ?_⟩
 refine hK.out _ _ ⟨cz_ BK418 0, cz_ BK418 1, cz_ BK418 2⟩ (fun hHeld => ?_)
 clear hK K
 refine nm_ (some 20) ?_
 refine px_ HT_ 13 21 16383 ?_
 refine px_ HT_ 14 22 32767 ?_
 refine on_ HT_ 15 (some 23) (bv_ 20 65535) (fun K hK => ?_)
 refine gs_ Try.func93 #[.int .i64 a0, .int .i64 (wrap64 (a1_0 + 1)), .int .i64 (wrap64 (t420 + (wrap64 (a2 * t421))))] ?_
 with_reducible refine (impl_ofMark.calls k a0 (wrap64 (a1_0 + 1)) (wrap64 (t420 + (wrap64 (a2 * t421)))) t422 t423 t424 t425 _ A6.out).mono ?_
 rintro e w11 ⟨rfl, hb⟩
 refine ⟨_, rfl, ?_⟩
 replace BK418 := bb_ BK418 hb
 replace BK419 := bb_ BK419 hb
 replace HB := bt_ HB hb
 try clear hb
 refine hK.out _ _ ⟨cz_ BK418 0, cz_ BK418 1, cz_ BK418 2⟩ (fun hHeld => ?_)
 clear hK K
 refine nm_ (some 23) ?_
 refine px_ HT_ 16 24 131071 ?_
 refine px_ HT_ 17 25 262143 ?_
 refine on_ HT_ 18 none (bv_ 20 524287) (fun K hK => ?_)
 have hs12 : w11.cell? ⟨gb419, 0, none⟩ = some (.int .i64 0) := (blk_cell BK419.out 0).trans rfl
 have hfs12 := blk_frozen BK419.out 0
 have hns12_0 := NB418_419.out
 have hms12_0 := NB419_418.out
 have hs13 : w11.cell? ⟨gb419, 1, none⟩ = some (.int .i64 0) := (blk_cell BK419.out 1).trans rfl
 have hfs13 := blk_frozen BK419.out 1
 have hns13_0 := NB418_419.out
 have hms13_0 := NB419_418.out
 have hs14 : w11.cell? ⟨gb419, 2, none⟩ = some (.int .i64 0) := (blk_cell BK419.out 2).trans rfl
 have hfs14 := blk_frozen BK419.out 2
 have hns14_0 := NB418_419.out
 have hms14_0 := NB419_418.out
 refine skip_ (w1 := ?_) (by rfl) rfl ?_ ?_
 rotate_left
 ·go_simp
  rfl
 refine hK.out _ _ ⟨(cg_ NB418_419 ((cg_ NB418_419 ((cg_ NB418_419 (hHeld.1)))))), (cg_ NB418_419 ((cg_ NB418_419 ((cg_ NB418_419 (hHeld.2.1)))))), (cg_ NB418_419 ((cg_ NB418_419 ((cg_ NB418_419 (hHeld.2.2))))))⟩ (fun hHeld => ?_)
 clear hK K
 refine px_ HT_ 19 7 1048575 ?_
 refine done_ (done_of HT_.out (by kernel_rfl)) ?_
 try go_wp2
 refine bodyPost_ret (results_ct rfl _ _ gb419 31 #[.int .i64 t422, .int .i64 t423, .int .i64 t424] (0, 0) _ rfl (bp_ BK419).out Try.underlying31 rfl (by kernel_rfl)) rfl ?_
 exact ⟨es_, (bw_ HB).out⟩
/-! ### impl_neighbour: function 87 -/
def impl_neighbour.f (k : Nat) (a0 a1_0 a1_1 a1_2 a2 : Int) : Option (Int × Int × Int × Bool) := if a2 = 0 then ((impl_parent.f k a0 a1_0 a1_1 a1_2).bind fun bt428 => (some (bt428.1, bt428.2.1, bt428.2.2.1, bt428.2.2.2))) else ((impl_child.f k a0 a1_0 a1_1 a1_2 (wrap64 (a2 - 1))).bind fun bt432 => (some (bt432.1, bt432.2.1, bt432.2.2.1, bt432.2.2.2)))
theorem impl_neighbour.calls (k : Nat) (a0 a1_0 a1_1 a1_2 a2 r1 r2 r3 : Int) (r4 : Bool) (w : World) (h : impl_neighbour.f k a0 a1_0 a1_1 a1_2 a2 = some (r1, r2, r3, r4)) :
  Calls Try.prog 87 #[.int .i64 a0, .agg #[.int .i64 a1_0, .int .i64 a1_1, .int .i64 a1_2], .int .i64 a2] w fun e w' => e = .returned (.tuple #[.agg #[.int .i64 r1, .int .i64 r2, .int .i64 r3], .bool r4]) ∧ Below w.heap.size w w' := by
 have hu31 := Try.underlying31
 have HB := Aside0.mk (Below.refl w.heap.size w)
 unfold impl_neighbour.f at h
 have H := h
 clear h
 replace H := ie_ H
 rcases H with ⟨c4b0, c4b1, H⟩ | ⟨c4, c4b0, c4b1, H⟩
 ·replace H := oc_ H
  obtain ⟨⟨t428, t429, t430, t431⟩, A5, H⟩ := H
  simp only [Option.some.injEq, Prod.mk.injEq] at H
  obtain ⟨rfl, rfl, rfl, rfl⟩ := H
  go_enter Try.func87, Try.ntmps87
  go_wp2_with (first | ((refine gd_ 4 ?_); refine by_ 4 #[.int .i64 a1_0, .int .i64 a1_1, .int .i64 a1_2] 31 HB ?_; intro gb426 hg w6 BK426 hb GW426 HB_; replace HB := HB_; clear hb hg) | ((refine gd_ 6 ?_); refine by_ 6 #[.int .i64 0, .int .i64 0, .int .i64 0] 31 HB ?_; intro gb427 hg w7 BK427 hb GW427 HB_; have NB426_427 := bm_ BK426 hg; have NB427_426 := bn_ BK426 hg; replace BK426 := bb_ BK426 hb; replace HB := HB_; clear hb hg; have hnb8 := NB426_427.out; have hnc8 := NB427_426.out; obtain ⟨hcz9_0, hcz9_1, hcz9_2, hfz9_0, hfz9_1, hfz9_2⟩ := ch3_ BK426) | ((refine gc_ 100 ?_); refine ge_ 12 Try.func100 #[.int .i64 a0, .agg #[.int .i64 a1_0, .int .i64 a1_1, .int .i64 a1_2]] ?_; (with_reducible refine (impl_parent.calls k a0 a1_0 a1_1 a1_2 t428 t429 t430 t431 _ A5.out).mono ?_); rintro e w10 ⟨rfl, hb⟩; refine ⟨_, rfl, ?_⟩; replace BK426 := bb_ BK426 hb; replace BK427 := bb_ BK427 hb; replace HB := bt_ HB hb; (try clear hb); obtain ⟨hcz11_0, hcz11_1, hcz11_2, hfz11_0, hfz11_1, hfz11_2⟩ := ch3_ BK427))
  refine bodyPost_ret (results_ct rfl _ _ gb427 31 #[.int .i64 t428, .int .i64 t429, .int .i64 t430] (0, 0) _ rfl (bp_ BK427).out Try.underlying31 rfl (by kernel_rfl)) rfl ?_
  exact ⟨es_, (bw_ HB).out⟩
 replace H := oc_ H
 obtain ⟨⟨t432, t433, t434, t435⟩, A12, H⟩ := H
 simp only [Option.some.injEq, Prod.mk.injEq] at H
 obtain ⟨rfl, rfl, rfl, rfl⟩ := H
 go_enter Try.func87, Try.ntmps87
 go_wp2_with (first | ((refine gd_ 4 ?_); refine by_ 4 #[.int .i64 a1_0, .int .i64 a1_1, .int .i64 a1_2] 31 HB ?_; intro gb426 hg w13 BK426 hb GW426 HB_; replace HB := HB_; clear hb hg) | ((refine gd_ 6 ?_); refine by_ 6 #[.int .i64 0, .int .i64 0, .int .i64 0] 31 HB ?_; intro gb427 hg w14 BK427 hb GW427 HB_; have NB426_427 := bm_ BK426 hg; have NB427_426 := bn_ BK426 hg; replace BK426 := bb_ BK426 hb; replace HB := HB_; clear hb hg; have hnb15 := NB426_427.out; have hnc15 := NB427_426.out; obtain ⟨hcz16_0, hcz16_1, hcz16_2, hfz16_0, hfz16_1, hfz16_2⟩ := ch3_ BK426) | ((refine gc_ 101 ?_); refine ge_ 19 Try.func101 #[.int .i64 a0, .agg #[.int .i64 a1_0, .int .i64 a1_1, .int .i64 a1_2], .int .i64 (wrap64 (a2 - 1))] ?_; (with_reducible refine (impl_child.calls k a0 a1_0 a1_1 a1_2 (wrap64 (a2 - 1)) t432 t433 t434 t435 _ A12.out).mono ?_); rintro e w17 ⟨rfl, hb⟩; refine ⟨_, rfl, ?_⟩; replace BK426 := bb_ BK426 hb; replace BK427 := bb_ BK427 hb; replace HB := bt_ HB hb; (try clear hb); obtain ⟨hcz18_0, hcz18_1, hcz18_2, hfz18_0, hfz18_1, hfz18_2⟩ := ch3_ BK427))
 refine bodyPost_ret (results_ct rfl _ _ gb427 31 #[.int .i64 t432, .int .i64 t433, .int .i64 t434] (0, 0) _ rfl (bp_ BK427).out Try.underlying31 rfl (by kernel_rfl)) rfl ?_
 exact ⟨es_, (bw_ HB).out⟩
/-! ### impl_someNeighbours: function 57 -/
def impl_someNeighbours.l0 : Nat → Int → List (S31) → Int → Int → Int → Int → Option ((List (S31)) × Bool)
 | 0, _, _, _, _, _, _ => none
 | k + 1, x0, x8, x9, x437000, x437001, x437002 => if x9 ≤ x0 then ((impl_neighbour.f k x0 x437000 x437001 x437002 x9).bind fun bt440 => (if bt440.2.2.2 = true then (if x8.length < 5864062014805 then (impl_someNeighbours.l0 k x0 (x8 ++ [(⟨bt440.1, bt440.2.1, bt440.2.2.1⟩ : S31)]) (wrap64 (x9 + 1)) x437000 x437001 x437002) else (none)) else (some (([] : List (S31)), false)))) else (some (x8, true))
def impl_someNeighbours.f (k : Nat) (a0 a1_0 a1_1 a1_2 a2 : Int) : Option ((List (S31)) × Bool) := impl_someNeighbours.l0 k a0 (([] : List (S31))) a2 a1_0 a1_1 a1_2
theorem impl_someNeighbours.calls (k : Nat) (a0 a1_0 a1_1 a1_2 a2 : Int) (r1 : List (S31)) (r2 : Bool) (w : World) (h : impl_someNeighbours.f k a0 a1_0 a1_1 a1_2 a2 = some (r1, r2)) :
  Calls Try.prog 57 #[.int .i64 a0, .agg #[.int .i64 a1_0, .int .i64 a1_1, .int .i64 a1_2], .int .i64 a2] w fun e w' => ∃ v0_ : Value, e = .returned (.tuple #[v0_, .bool r2]) ∧ Kd.R k31 31 w' w.heap.size (fun _ => True) v0_ r1 ∧ Below w.heap.size w w' := by
 have hu31 := Try.underlying31
 have HB := Aside0.mk (Below.refl w.heap.size w)
 unfold impl_someNeighbours.f at h
 have H := h
 clear h
 obtain ⟨y437, hy437⟩ : ∃ y_ : List (S31), y_ = (([] : List (S31))) := ⟨_, rfl⟩
 replace H : (impl_someNeighbours.l0 k a0 y437 a2 a1_0 a1_1 a1_2) = some (r1, r2) := by first | (rw [hy437]; with_reducible exact H) | (have H2_ := (Option.bind_some _ _).symm.trans H; rw [hy437]; with_reducible exact H2_) | (have H2_ := (Option.bind_some _ _).symm.trans H; with_reducible exact H2_) | with_reducible exact H | (rw [hy437]; exact H) | exact H
 have Ny437 := Aside0.mk hy437
 clear hy437
 have H' := Aside0.mk H
 clear H
 go_enter Try.func57, Try.ntmps57
 go_wp2_with (first | ((refine gd_ 4 ?_); refine by_ 4 #[.int .i64 a1_0, .int .i64 a1_1, .int .i64 a1_2] 31 HB ?_; intro gb436 hg w4 BK436 hb GW436 HB_; replace HB := HB_; clear hb hg) | ((refine gd_ 12 ?_); refine Kd.R_lit k31 _ 31 ?hg (N := 12) ?hd (xs := ([] : List (S31))) (inner := []) (ok := fun _ => True) (okp := fun _ => True) ?hr ?hp (fun _ hk => hk) trivial (Below.refl _ _) (Nat.le_refl _) (by simp) ?_; (case hd => rfl); (case hg => rfl); (case hr => first | (go_simp; done) | (go_simp; rfl)); (case hp => exact (Reps.none _ _)); intro v438 w5 ho6 hb hg_ hnew_; clear hg_ hnew_; (first | rw [← Ny437.out] at ho6 | (simp only [Int.reduceToNat] at ho6; rw [← Ny437.out] at ho6)); have HO439 := Aside0.mk (Kd.R_lower (Kd.R_newB ho6 (g := gb436) (o := .cells #[.int .i64 a1_0, .int .i64 a1_1, .int .i64 a1_2] 31 (0, 0)) (bl_ BK436).out) (below_size (bw_ HB).out)); replace BK436 := bb_ BK436 hb; replace HB := bt_ HB hb; clear hb ho6))
 go_loopg [8, 9] k (fun kq v8 v9 w' => ∃ (x8_1 : List (S31)) (x9_1 : Int), v9 = .int .i64 x9_1 ∧ Aside0 (impl_someNeighbours.l0 kq a0 x8_1 x9_1 a1_0 a1_1 a1_2 = some (r1, r2)) ∧ Aside0 (kq ≤ k) ∧ Aside0 (Kd.R k31 31 w' w.heap.size (fun k_ => k_ ≠ gb436) v8 x8_1) ∧ Aside0 (w'.heap[gb436]? = some (.cells #[.int .i64 a1_0, .int .i64 a1_1, .int .i64 a1_2] 31 (0, 0))) ∧ Aside0 (Below w.heap.size w w'))
 case atStart => exact ⟨(y437), (a2), en_, H', ⟨Nat.le_refl _⟩, ⟨by (with_reducible repeat (first | apply Kd.R_alloc | apply Kd.R_drewN | apply Kd.R_drew)); exact Kd.R_mono HO439.out (fun _ hk => hk.2)⟩, bl_ BK436, bw_ HB⟩
 clear H'
 obtain ⟨x8_1, x9_1, rfl, HA, HK1, HO_8, BK436, HB⟩ := hrel
 cases gk with
 | zero => exact absurd HA.out (by simp [impl_someNeighbours.l0])
 | succ k1 =>
  have H := HA.out
  clear HA
  simp only [impl_someNeighbours.l0] at H
  replace H := im_ H
  rcases H with ⟨c7b0, H⟩ | ⟨c7b0, H⟩
  ·replace H := oc_ H
   obtain ⟨⟨t440, t441, t442, t443⟩, A8, H⟩ := H
   replace H := ib_ H
   rcases H with ⟨rfl, H⟩ | ⟨rfl, H⟩
   ·by_cases c10 : x8_1.length < 5864062014805
    ·rw [if_pos c10] at H
     have LMc10 := Aside0.mk c10
     clear c10
     obtain ⟨y445, hy445⟩ : ∃ y_ : List (S31), y_ = (x8_1 ++ [(⟨t440, t441, t442⟩ : S31)]) := ⟨_, rfl⟩
     replace H : (impl_someNeighbours.l0 k1 a0 y445 (wrap64 (x9_1 + 1)) a1_0 a1_1 a1_2) = some (r1, r2) := by first | (rw [hy445]; with_reducible exact H) | (have H2_ := (Option.bind_some _ _).symm.trans H; rw [hy445]; with_reducible exact H2_) | (have H2_ := (Option.bind_some _ _).symm.trans H; with_reducible exact H2_) | with_reducible exact H | (rw [hy445]; exact H) | exact H
     have Ny445 := Aside0.mk hy445
     clear hy445
     have H' := Aside0.mk H
     clear H
     obtain ⟨hcz11_0, hcz11_1, hcz11_2, hfz11_0, hfz11_1, hfz11_2⟩ := ch3_ BK436
     go_wp2_with (first | ((refine gc_ 87 ?_); refine ge_ 23 Try.func87 #[.int .i64 a0, .agg #[.int .i64 a1_0, .int .i64 a1_1, .int .i64 a1_2], .int .i64 x9_1] ?_; (with_reducible refine (impl_neighbour.calls k1 a0 a1_0 a1_1 a1_2 x9_1 t440 t441 t442 true _ A8.out).mono ?_); rintro e w12 ⟨rfl, hb⟩; refine ⟨_, rfl, ?_⟩; replace HO_8 := rb_ HO_8 hb; replace BK436 := bb_ BK436 hb; replace HB := bt_ HB hb; (try clear hb)) | ((refine gd_ 10 ?_); refine bx_ 10 #[.int .i64 0, .int .i64 0, .int .i64 0] 31 ?_; intro gb444 hg w13 BK444 hb; have GW444 := bs_ HB hg; have NB436_444 := bm_ BK436 hg; have NB444_436 := bn_ BK436 hg; replace HO_8 := Aside0.mk (Kd.R_below (Kd.R_elderB (ra_ HO_8.out) gb444 (Nat.le_of_eq hg.symm)) hb); replace BK436 := bb_ BK436 hb; replace HB := bt_ HB hb; clear hb hg; have hnb14 := NB444_436.out; have hnc14 := NB436_444.out; obtain ⟨hcz15_0, hcz15_1, hcz15_2, hfz15_0, hfz15_1, hfz15_2⟩ := ch3_ BK444) | ((with_reducible refine gate_builtin (b := .append) (xs := #[.tmp 28, .tmp 30]) rfl ?_); at_builtin; refine Kd.R_append k31 (w0 := w) w.heap.size rfl (.tmp 28) (.tmp 30) 83 31 (.agg #[(.int .i64 0), (.int .i64 0), (.int .i64 0)]) 24 rfl Try.underlying83 info31 rfl (by decide) (by omega) u8 x8_1 (⟨t440, t441, t442⟩ : S31) [.int .i64 t440, .int .i64 t441, .int .i64 t442] (fun k_ => k_ ≠ gb436 ∧ k_ ≠ gb444) (fun _ => False) rfl (by first | (go_simp; done) | (go_simp; rfl)) ?aP (fun _ hk => hk.elim) ?aF ?aO ?aB ?aS ?aL ?_; (case aP => exact k31_mkM _ _ _ (⟨t440, t441, t442⟩ : S31)); (case aB => exact (bw_ HB).out); (case aF => exact (fun k_ hk => ⟨Kd.freshB (g := gb436) (o := .cells #[.int .i64 a1_0, .int .i64 a1_1, .int .i64 a1_2] 31 (0, 0)) (fl_ BK436 NB436_444).out k_ hk, Kd.freshB (g := gb444) (o := .cells #[.int .i64 t440, .int .i64 t441, .int .i64 t442] 31 (0, 0)) (bp_ BK444).out k_ hk⟩)); (case aO => exact (by (with_reducible repeat (first | apply Kd.R_alloc | apply Kd.R_drewN | apply Kd.R_drew)); exact Kd.R_mono (Kd.R_far (p := ⟨gb444, 2, none⟩) (Kd.R_far (p := ⟨gb444, 1, none⟩) (Kd.R_far (p := ⟨gb444, 0, none⟩) (Kd.R_mono HO_8.out (fun k_ hk => (⟨hk, hk.2⟩ : _ ∧ k_ ≠ gb444))) (fun _ hk => hk.2) (.int .i64 t440)) (fun _ hk => hk.2) (.int .i64 t441)) (fun _ hk => hk.2) (.int .i64 t442)) (fun _ hk => ⟨hk.1.1, hk.1.2⟩))); (case aS => exact (below_size (bw_ HB).out)); (case aL => have := LMc10.out; omega); intro v446 w16 ho hb hg hat; rw [← Ny445.out] at ho; have n0_ := Aside0.mk (blk_grown (g := gb436) (o := .cells #[.int .i64 a1_0, .int .i64 a1_1, .int .i64 a1_2] 31 (0, 0)) (fl_ BK436 NB436_444).out hg (Kd.R_away HO_8.out (fun _ hk => hk.1))); have n1_ := Aside0.mk (blk_grown (g := gb444) (o := .cells #[.int .i64 t440, .int .i64 t441, .int .i64 t442] 31 (0, 0)) (bp_ BK444).out hg (Kd.R_away HO_8.out (fun _ hk => hk.2))); have n2_ := Aside0.mk (hb); have n3_ := Aside0.mk (ho); clear BK436; clear BK444; clear HB; clear HO_8; have BK436 := n0_; have BK444 := n1_; have HB := n2_; have HO447 := n3_; clear n0_ n1_ n2_ n3_; clear ho hb hg hat))
     go_roundg k1
     case measure => have := HK1.out; omega
     case rel => exact ⟨(y445), (wrap64 (x9_1 + 1)), en_, H', ⟨by have := HK1.out; omega⟩, ⟨by (with_reducible repeat (first | apply Kd.R_alloc | apply Kd.R_drewN | apply Kd.R_drew)); exact Kd.R_mono HO447.out (fun _ hk => hk.1)⟩, bl_ BK436, bw_ HB⟩
    rw [if_neg c10] at H
    exact absurd H (by simp)
   simp only [Option.some.injEq, Prod.mk.injEq] at H
   obtain ⟨rfl, rfl⟩ := H
   obtain ⟨hcz17_0, hcz17_1, hcz17_2, hfz17_0, hfz17_1, hfz17_2⟩ := ch3_ BK436
   go_wp2_with (first | ((refine gc_ 87 ?_); refine ge_ 23 Try.func87 #[.int .i64 a0, .agg #[.int .i64 a1_0, .int .i64 a1_1, .int .i64 a1_2], .int .i64 x9_1] ?_; (with_reducible refine (impl_neighbour.calls k1 a0 a1_0 a1_1 a1_2 x9_1 t440 t441 t442 false _ A8.out).mono ?_); rintro e w18 ⟨rfl, hb⟩; refine ⟨_, rfl, ?_⟩; replace HO_8 := rb_ HO_8 hb; replace BK436 := bb_ BK436 hb; replace HB := bt_ HB hb; (try clear hb)) | ((refine gd_ 10 ?_); refine bx_ 10 #[.int .i64 0, .int .i64 0, .int .i64 0] 31 ?_; intro gb444 hg w19 BK444 hb; have GW444 := bs_ HB hg; have NB436_444 := bm_ BK436 hg; have NB444_436 := bn_ BK436 hg; replace HO_8 := Aside0.mk (Kd.R_below (Kd.R_elderB (ra_ HO_8.out) gb444 (Nat.le_of_eq hg.symm)) hb); replace BK436 := bb_ BK436 hb; replace HB := bt_ HB hb; clear hb hg; have hnb20 := NB444_436.out; have hnc20 := NB436_444.out; obtain ⟨hcz21_0, hcz21_1, hcz21_2, hfz21_0, hfz21_1, hfz21_2⟩ := ch3_ BK444))
   go_ret2
   exact ⟨_, es_, by first | exact Kd.R_nil _ _ _ _ _ | exact Kd.N_nil _ _ _ _ _ | exact Kd.V_nil _ _ _ _ _ | exact Kd.Q_nil _ _ _ _ _ | exact Kd.S_nil _ _ _ _ _, (bw_ HB).out⟩
  simp only [Option.some.injEq, Prod.mk.injEq] at H
  obtain ⟨rfl, rfl⟩ := H
  go_wp2
  go_ret2
  exact ⟨_, es_, by (with_reducible repeat (first | apply Kd.R_alloc | apply Kd.R_drewN | apply Kd.R_drew)); exact Kd.R_mono HO_8.out (fun _ hk => trivial), (bw_ HB).out⟩
end Go.Proofs.Ytdfcoebadjhjlaa.QH
