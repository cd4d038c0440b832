import Derived.Test.YtgoeelhiffbjlaaQPx9
import Derived.Test.YtgoeelhiffbjlaaQPx31
namespace Go.Proofs.Ytgoeelhiffbjlaa.QP
set_option maxHeartbeats 8000000
set_option maxRecDepth 100000
open Go.RowKit Go.Proofs.YtgoeelhiffbjlaaW.PrintWords Go.Proofs.YtgoeelhiffbjlaaW.PrintLast Go.Proofs.YtgoeelhiffbjlaaW.PrintMore
attribute [local go_sem] isSome_setCell max2_int min2_int max_two min_two max_three min_three max_four min_four
set_option linter.unusedVariables false
set_option linter.unusedSimpArgs false

/-! ### impl_ofMark: function 192 -/
def impl_ofMark.f (k : Nat) (a0 a1 a2 : Int) : Option (Int × Int × Int × Bool) := (impl_isLevel.f a1).bind fun t281 => (if t281 = true then ((impl_power.f k a0 (wrap64 (a1 + 6))).bind fun t282 => ((impl_mod.f a2 t282).bind fun t283 => ((impl_valuation.f k a0 t283).bind fun t284 => ((impl_power.f k a0 (wrap64 (6 - (mx (wrap64 (6 - t284)) 0)))).bind fun t285 => (if t285 = 0 then (none) else (some (a1, wrap64 (Int.tdiv t283 t285), mx (wrap64 (6 - t284)) 0, true))))))) else (some (0, 0, 0, false)))
theorem impl_ofMark.calls (k : Nat) (a0 a1 a2 r1 r2 r3 : Int) (r4 : Bool) (w : World) (h : impl_ofMark.f k a0 a1 a2 = some (r1, r2, r3, r4)) :
  Calls Try.prog 192 #[.int .i64 a0, .int .i64 a1, .int .i64 a2] w fun e w' => e = .returned (.tuple #[.agg #[.int .i64 r1, .int .i64 r2, .int .i64 r3], .bool r4]) ∧ Below w.heap.size w w' := by
 have hu25 := Try.underlying25
 have HB := Aside0.mk (Below.refl w.heap.size w)
 unfold impl_ofMark.f at h
 have H := h
 clear h
 replace H := oc_ H
 obtain ⟨t281, A4, H⟩ := H
 replace H := ib_ H
 rcases H with ⟨rfl, H⟩ | ⟨rfl, H⟩
 ·replace H := oc_ H
  obtain ⟨t282, A6, H⟩ := H
  replace H := oc_ H
  obtain ⟨t283, A7, H⟩ := H
  replace H := oc_ H
  obtain ⟨t284, A8, H⟩ := H
  obtain ⟨ji9, hji9⟩ : ∃ j_ : Int, (mx (wrap64 (6 - t284)) 0) = j_ := ⟨_, rfl⟩
  replace H : ((impl_power.f k a0 (wrap64 (6 - (ji9)))).bind fun t285 => (if t285 = 0 then (none) else (some (a1, wrap64 (Int.tdiv t283 t285), ji9, true)))) = some (r1, r2, r3, r4) := by first | (rw [hji9] at H; exact H) | (simp only [hji9] at H ⊢; exact H)
  (try rw [hji9] at A4)
  (try rw [hji9] at A6)
  (try rw [hji9] at A7)
  (try rw [hji9] at A8)
  (try (have hji9l : 0 ≤ ji9 := by (rw [← hji9]; unfold mx; (repeat' split) <;> omega)))
  (try (have hji9m : 0 ≤ ji9 := by omega))
  have hji9_ : (if (wrap64 (6 - t284)) < 0 then 0 else (wrap64 (6 - t284))) = ji9 := hji9
  replace H := oc_ H
  obtain ⟨t285, A10, H⟩ := H
  replace H := ief_ H
  obtain ⟨c11, c11b0, c11b1, H⟩ := H
  simp only [Option.some.injEq, Prod.mk.injEq] at H
  obtain ⟨rfl, rfl, rfl, rfl⟩ := H
  go_enter Try.func192, Try.ntmps192
  go_wp2_with (first | ((refine gd_ 6 ?_); refine by_ 6 #[.int .i64 0, .int .i64 0, .int .i64 0] 25 HB ?_; intro gb280 hg w12 BK280 hb GW280 HB_; replace HB := HB_; clear hb hg) | ((refine gc_ 161 ?_); refine ge_ 10 Try.func161 #[.int .i64 a1] ?_; (with_reducible refine (impl_isLevel.calls a1 true _ A4.out).mono ?_); rintro e w' ⟨rfl, ⟨nd, rfl⟩⟩; refine ⟨_, rfl, ?_⟩; (try (rw [drewN_self w12]; generalize hq_ : World.drewN w12 _ = w12; replace BK280 := bq_ BK280 hq_; replace HB := hq_' HB hq_; clear hq_))) | ((refine gc_ 162 ?_); refine ge_ 17 Try.func162 #[.int .i64 a0, .int .i64 (wrap64 (a1 + 6))] ?_; (with_reducible refine (impl_power.calls k a0 (wrap64 (a1 + 6)) t282 _ A6.out).mono ?_); rintro e w' ⟨rfl, ⟨nd, rfl⟩⟩; refine ⟨_, rfl, ?_⟩; (try (rw [drewN_self w12]; generalize hq_ : World.drewN w12 _ = w12; replace BK280 := bq_ BK280 hq_; replace HB := hq_' HB hq_; clear hq_))) | ((refine gc_ 203 ?_); refine ge_ 18 Try.func203 #[.int .i64 a2, .int .i64 t282] ?_; (with_reducible refine (impl_mod.calls a2 t282 t283 _ A7.out).mono ?_); rintro e w' ⟨rfl, ⟨nd, rfl⟩⟩; refine ⟨_, rfl, ?_⟩; (try (rw [drewN_self w12]; generalize hq_ : World.drewN w12 _ = w12; replace BK280 := bq_ BK280 hq_; replace HB := hq_' HB hq_; clear hq_))) | ((refine gc_ 164 ?_); refine ge_ 21 Try.func164 #[.int .i64 a0, .int .i64 t283] ?_; (with_reducible refine (impl_valuation.calls k a0 t283 t284 _ A8.out).mono ?_); rintro e w' ⟨rfl, ⟨nd, rfl⟩⟩; refine ⟨_, rfl, ?_⟩; (try (rw [drewN_self w12]; generalize hq_ : World.drewN w12 _ = w12; replace BK280 := bq_ BK280 hq_; replace HB := hq_' HB hq_; clear hq_))) | ((refine gc_ 162 ?_); refine ge_ 29 Try.func162 #[.int .i64 a0, .int .i64 (wrap64 (6 - (ji9)))] ?_ (hargs := by (try simp only [List.map_toArray, List.map_cons, List.map_nil]); first | done | (simp only [hji9]; rfl) | rfl | (simp only [List.length_drop, List.length_take]; rfl)); (with_reducible refine (impl_power.calls k a0 (wrap64 (6 - (ji9))) t285 _ A10.out).mono ?_); rintro e w' ⟨rfl, ⟨nd, rfl⟩⟩; refine ⟨_, rfl, ?_⟩; (try (rw [drewN_self w12]; generalize hq_ : World.drewN w12 _ = w12; replace BK280 := bq_ BK280 hq_; replace HB := hq_' HB hq_; clear hq_)); obtain ⟨hcz13_0, hcz13_1, hcz13_2, hfz13_0, hfz13_1, hfz13_2⟩ := ch3_ BK280))
  refine bodyPost_ret (results_ct rfl _ _ gb280 25 #[.int .i64 a1, .int .i64 (wrap64 (Int.tdiv t283 t285)), .int .i64 ji9] (0, 0) _ rfl (bp_ BK280).out Try.underlying25 rfl (by kernel_rfl)) rfl ?_
  exact ⟨by first | rfl | (simp [errW_none, errW_some] <;> rfl) | (simp only [← hji9]; first | rfl | (simp [errW_none, errW_some] <;> rfl)) | (simp [*, errW_none, errW_some] <;> rfl), (bw_ HB).out⟩
 simp only [Option.some.injEq, Prod.mk.injEq] at H
 obtain ⟨rfl, rfl, rfl, rfl⟩ := H
 go_enter Try.func192, Try.ntmps192
 go_wp2_with (first | ((refine gd_ 6 ?_); refine by_ 6 #[.int .i64 0, .int .i64 0, .int .i64 0] 25 HB ?_; intro gb280 hg w14 BK280 hb GW280 HB_; replace HB := HB_; clear hb hg) | ((refine gc_ 161 ?_); refine ge_ 10 Try.func161 #[.int .i64 a1] ?_; (with_reducible refine (impl_isLevel.calls a1 false _ A4.out).mono ?_); rintro e w' ⟨rfl, ⟨nd, rfl⟩⟩; refine ⟨_, rfl, ?_⟩; (try (rw [drewN_self w14]; generalize hq_ : World.drewN w14 _ = w14; replace BK280 := bq_ BK280 hq_; replace HB := hq_' HB hq_; clear hq_)); obtain ⟨hcz15_0, hcz15_1, hcz15_2, hfz15_0, hfz15_1, hfz15_2⟩ := ch3_ BK280))
 refine bodyPost_ret (results_ct rfl _ _ gb280 25 #[.int .i64 0, .int .i64 0, .int .i64 0] (0, 0) _ rfl (bp_ BK280).out Try.underlying25 rfl (by kernel_rfl)) rfl ?_
 exact ⟨es_, (bw_ HB).out⟩
/-! ### impl_parent: function 184 -/
def impl_parent.f (k : Nat) (a0 a1_0 a1_1 a1_2 : Int) : Option (Int × Int × Int × Bool) := (impl_mark.f k a0 a1_0 a1_1 a1_2).bind fun t288 => ((impl_ofMark.f k a0 (wrap64 (a1_0 - 1)) t288).bind fun bt289 => (some (bt289.1, bt289.2.1, bt289.2.2.1, bt289.2.2.2)))
def impl_parent.T1 : Bool × List (List Nat × List Nat) := (true, [([], []), ([], []), ([1], [1]), ([2], [2]), ([], []), ([], []), ([4, 5], [4, 5]), ([0, 3, 6, 6], [0, 3, 6]), ([7], [7]), ([7], [7]), ([8, 7, 0, 1, 2, 3, 4, 5, 6, 7, 8, 9], [8]), ([9, 10, 0, 1, 2, 3, 4, 5, 6, 7, 8, 9, 10], [9])])
def impl_parent.B1 : List Nat := [0, 0, 2, 6, 0, 0, 48, 127, 255, 255, 1023, 2047]
theorem impl_parent.tab1 : rtab .any (opsOf Try.f184 1) = impl_parent.T1 := by kernel_rfl
theorem impl_parent.bits1 : waitsOk impl_parent.T1.2 impl_parent.B1 = true := by kernel_rfl
theorem impl_parent.calls (k : Nat) (a0 a1_0 a1_1 a1_2 r1 r2 r3 : Int) (r4 : Bool) (w : World) (h : impl_parent.f k a0 a1_0 a1_1 a1_2 = some (r1, r2, r3, r4)) :
  Calls Try.prog 184 #[.int .i64 a0, .agg #[.int .i64 a1_0, .int .i64 a1_1, .int .i64 a1_2]] w fun e w' => e = .returned (.tuple #[.agg #[.int .i64 r1, .int .i64 r2, .int .i64 r3], .bool r4]) ∧ Below w.heap.size w w' := by
 have hu25 := Try.underlying25
 have HB := Aside0.mk (Below.refl w.heap.size w)
 unfold impl_parent.f at h
 have H := h
 clear h
 replace H := oc_ H
 obtain ⟨t288, A3, H⟩ := H
 replace H := oc_ H
 obtain ⟨⟨t289, t290, t291, t292⟩, A4, H⟩ := H
 simp only [Option.some.injEq, Prod.mk.injEq] at H
 obtain ⟨rfl, rfl, rfl, rfl⟩ := H
 go_enter Try.func184, Try.ntmps184
 try go_wp2_with (first | ((refine gd_ 3 ?_); refine by_ 3 #[.int .i64 a1_0, .int .i64 a1_1, .int .i64 a1_2] 25 HB ?_; intro gb286 hg w5 BK286 hb GW286 HB_; replace HB := HB_; clear hb hg) | ((refine gd_ 4 ?_); refine by_ 4 #[.int .i64 0, .int .i64 0, .int .i64 0] 25 HB ?_; intro gb287 hg w6 BK287 hb GW287 HB_; have NB286_287 := bm_ BK286 hg; have NB287_286 := bn_ BK286 hg; replace BK286 := bb_ BK286 hb; replace HB := HB_; clear hb hg))
 replace BK286 := bd_ BK286
 replace BK287 := bd_ BK287
 replace HB := be_ HB
 refine start_ (n := 12) (S := fun w' => w'.cell? ⟨gb286, 0, none⟩ = some (.int .i64 a1_0) ∧ w'.cell? ⟨gb286, 1, none⟩ = some (.int .i64 a1_1) ∧ w'.cell? ⟨gb286, 2, none⟩ = some (.int .i64 a1_2)) (ds := []) (bv_ 12 0) (by kernel_rfl) rfl rfl ⟨cz_ BK286 0, cz_ BK286 1, cz_ BK286 2⟩ (fun hHeld => ?_); refine with_tabW impl_parent.tab1 impl_parent.bits1 (fun HT_ HW_ => ?_)
 generalize w6.drew = w7 at BK286 BK287 HB hHeld ⊢
 refine px_ HT_ 0 6 1 ?_
 refine px_ HT_ 1 7 3 ?_
 refine px_ HT_ 4 10 19 ?_
 refine ta_ HT_ HW_ 2 (some 8) (bv_ 12 23) hHeld ?_ (hy := by rintro w' ⟨s0, s1, s2⟩; go_simp; with_reducible rfl)
 refine px_ HT_ 3 9 31 ?_
 refine ta_ HT_ HW_ 5 (some 11) (bv_ 12 63) hHeld ?_ (hy := by rintro w' ⟨s0, s1, s2⟩; go_simp; with_reducible rfl)
 refine on_ HT_ 6 (some 12) (bv_ 12 127) (fun K hK => ?_)
 refine gs_ Try.func163 #[.int .i64 a0, .agg #[.int .i64 a1_0, .int .i64 a1_1, .int .i64 a1_2]] ?_
 with_reducible refine (impl_mark.calls k a0 a1_0 a1_1 a1_2 t288 _ A3.out).mono ?_
 rintro e w8 ⟨rfl, hb⟩
 refine ⟨_, rfl, ?_⟩
 replace BK286 := bb_ BK286 hb
 replace BK287 := bb_ BK287 hb
 replace HB := bt_ HB hb
 try clear hb
 refine hK.out _ _ ⟨cz_ BK286 0, cz_ BK286 1, cz_ BK286 2⟩ (fun hHeld => ?_)
 clear hK K
 refine nm_ (some 12) ?_
 refine on_ HT_ 7 (some 13) (bv_ 12 255) (fun K hK => ?_)
 refine gs_ Try.func192 #[.int .i64 a0, .int .i64 (wrap64 (a1_0 - 1)), .int .i64 t288] ?_
 with_reducible refine (impl_ofMark.calls k a0 (wrap64 (a1_0 - 1)) t288 t289 t290 t291 t292 _ A4.out).mono ?_
 rintro e w9 ⟨rfl, hb⟩
 refine ⟨_, rfl, ?_⟩
 replace BK286 := bb_ BK286 hb
 replace BK287 := bb_ BK287 hb
 replace HB := bt_ HB hb
 try clear hb
 refine hK.out _ _ ⟨cz_ BK286 0, cz_ BK286 1, cz_ BK286 2⟩ (fun hHeld => ?_)
 clear hK K
 refine nm_ (some 13) ?_
 refine px_ HT_ 8 14 511 ?_
 refine px_ HT_ 9 15 1023 ?_
 refine on_ HT_ 10 none (bv_ 12 2047) (fun K hK => ?_)
 have hs10 : w9.cell? ⟨gb287, 0, none⟩ = some (.int .i64 0) := (blk_cell BK287.out 0).trans rfl
 have hfs10 := blk_frozen BK287.out 0
 have hns10_0 := NB286_287.out
 have hms10_0 := NB287_286.out
 have hs11 : w9.cell? ⟨gb287, 1, none⟩ = some (.int .i64 0) := (blk_cell BK287.out 1).trans rfl
 have hfs11 := blk_frozen BK287.out 1
 have hns11_0 := NB286_287.out
 have hms11_0 := NB287_286.out
 have hs12 : w9.cell? ⟨gb287, 2, none⟩ = some (.int .i64 0) := (blk_cell BK287.out 2).trans rfl
 have hfs12 := blk_frozen BK287.out 2
 have hns12_0 := NB286_287.out
 have hms12_0 := NB287_286.out
 refine skip_ (w1 := ?_) (by rfl) rfl ?_ ?_
 rotate_left
 ·go_simp
  rfl
 refine hK.out _ _ ⟨(cg_ NB286_287 ((cg_ NB286_287 ((cg_ NB286_287 (hHeld.1)))))), (cg_ NB286_287 ((cg_ NB286_287 ((cg_ NB286_287 (hHeld.2.1)))))), (cg_ NB286_287 ((cg_ NB286_287 ((cg_ NB286_287 (hHeld.2.2))))))⟩ (fun hHeld => ?_)
 clear hK K
 refine px_ HT_ 11 5 4095 ?_
 refine done_ (done_of HT_.out (by kernel_rfl)) ?_
 try go_wp2
 refine bodyPost_ret (results_ct rfl _ _ gb287 25 #[.int .i64 t289, .int .i64 t290, .int .i64 t291] (0, 0) _ rfl (bp_ BK287).out Try.underlying25 rfl (by kernel_rfl)) rfl ?_
 exact ⟨es_, (bw_ HB).out⟩
/-! ### impl_child: function 185 -/
def impl_child.f (k : Nat) (a0 a1_0 a1_1 a1_2 a2 : Int) : Option (Int × Int × Int × Bool) := (impl_mark.f k a0 a1_0 a1_1 a1_2).bind fun t295 => ((impl_power.f k a0 (wrap64 (a1_0 + 6))).bind fun t296 => ((impl_ofMark.f k a0 (wrap64 (a1_0 + 1)) (wrap64 (t295 + (wrap64 (a2 * t296))))).bind fun bt297 => (some (bt297.1, bt297.2.1, bt297.2.2.1, bt297.2.2.2))))
def impl_child.T1 : Bool × List (List Nat × List Nat) := (true, [([], []), ([], []), ([1], [1]), ([2], [2]), ([], []), ([], []), ([4, 5], [4, 5]), ([], []), ([], []), ([], []), ([9], [9]), ([10], [10]), ([8, 11, 6], [8, 11]), ([7, 12], [7, 12]), ([6, 13], [6, 13]), ([0, 3, 14, 12], [0, 3, 14]), ([15], [15]), ([15], [15]), ([16, 15, 0, 1, 2, 3, 4, 5, 6, 7, 8, 9, 10, 11, 12, 13, 14, 15, 16, 17], [16]), ([17, 18, 0, 1, 2, 3, 4, 5, 6, 7, 8, 9, 10, 11, 12, 13, 14, 15, 16, 17, 18], [17])])
def impl_child.B1 : List Nat := [0, 0, 2, 6, 0, 0, 48, 0, 0, 0, 512, 1536, 3952, 8176, 16368, 32767, 65535, 65535, 262143, 524287]
theorem impl_child.tab1 : rtab .any (opsOf Try.f185 1) = impl_child.T1 := by kernel_rfl
theorem impl_child.bits1 : waitsOk impl_child.T1.2 impl_child.B1 = true := by kernel_rfl
theorem impl_child.calls (k : Nat) (a0 a1_0 a1_1 a1_2 a2 r1 r2 r3 : Int) (r4 : Bool) (w : World) (h : impl_child.f k a0 a1_0 a1_1 a1_2 a2 = some (r1, r2, r3, r4)) :
  Calls Try.prog 185 #[.int .i64 a0, .agg #[.int .i64 a1_0, .int .i64 a1_1, .int .i64 a1_2], .int .i64 a2] w fun e w' => e = .returned (.tuple #[.agg #[.int .i64 r1, .int .i64 r2, .int .i64 r3], .bool r4]) ∧ Below w.heap.size w w' := by
 have hu25 := Try.underlying25
 have HB := Aside0.mk (Below.refl w.heap.size w)
 unfold impl_child.f at h
 have H := h
 clear h
 replace H := oc_ H
 obtain ⟨t295, A4, H⟩ := H
 replace H := oc_ H
 obtain ⟨t296, A5, H⟩ := H
 replace H := oc_ H
 obtain ⟨⟨t297, t298, t299, t300⟩, A6, H⟩ := H
 simp only [Option.some.injEq, Prod.mk.injEq] at H
 obtain ⟨rfl, rfl, rfl, rfl⟩ := H
 go_enter Try.func185, Try.ntmps185
 try go_wp2_with (first | ((refine gd_ 4 ?_); refine by_ 4 #[.int .i64 a1_0, .int .i64 a1_1, .int .i64 a1_2] 25 HB ?_; intro gb293 hg w7 BK293 hb GW293 HB_; replace HB := HB_; clear hb hg) | ((refine gd_ 6 ?_); refine by_ 6 #[.int .i64 0, .int .i64 0, .int .i64 0] 25 HB ?_; intro gb294 hg w8 BK294 hb GW294 HB_; have NB293_294 := bm_ BK293 hg; have NB294_293 := bn_ BK293 hg; replace BK293 := bb_ BK293 hb; replace HB := HB_; clear hb hg))
 replace BK293 := bd_ BK293
 replace BK294 := bd_ BK294
 replace HB := be_ HB
 refine start_ (n := 20) (S := fun w' => w'.cell? ⟨gb293, 0, none⟩ = some (.int .i64 a1_0) ∧ w'.cell? ⟨gb293, 1, none⟩ = some (.int .i64 a1_1) ∧ w'.cell? ⟨gb293, 2, none⟩ = some (.int .i64 a1_2)) (ds := []) (bv_ 20 0) (by kernel_rfl) rfl rfl ⟨cz_ BK293 0, cz_ BK293 1, cz_ BK293 2⟩ (fun hHeld => ?_); refine with_tabW impl_child.tab1 impl_child.bits1 (fun HT_ HW_ => ?_)
 generalize w8.drew = w9 at BK293 BK294 HB hHeld ⊢
 refine px_ HT_ 0 8 1 ?_
 refine px_ HT_ 1 9 3 ?_
 refine px_ HT_ 4 12 19 ?_
 refine px_ HT_ 7 15 147 ?_
 refine px_ HT_ 8 16 403 ?_
 refine px_ HT_ 9 17 915 ?_
 refine ta_ HT_ HW_ 2 (some 10) (bv_ 20 919) hHeld ?_ (hy := by rintro w' ⟨s0, s1, s2⟩; go_simp; with_reducible rfl)
 refine px_ HT_ 3 11 927 ?_
 refine ta_ HT_ HW_ 5 (some 13) (bv_ 20 959) hHeld ?_ (hy := by rintro w' ⟨s0, s1, s2⟩; go_simp; with_reducible rfl)
 refine ta_ HT_ HW_ 10 (some 18) (bv_ 20 1983) hHeld ?_ (hy := by rintro w' ⟨s0, s1, s2⟩; go_simp; with_reducible rfl)
 refine px_ HT_ 11 19 4031 ?_
 refine on_ HT_ 6 (some 14) (bv_ 20 4095) (fun K hK => ?_)
 refine gs_ Try.func163 #[.int .i64 a0, .agg #[.int .i64 a1_0, .int .i64 a1_1, .int .i64 a1_2]] ?_
 with_reducible refine (impl_mark.calls k a0 a1_0 a1_1 a1_2 t295 _ A4.out).mono ?_
 rintro e w10 ⟨rfl, hb⟩
 refine ⟨_, rfl, ?_⟩
 replace BK293 := bb_ BK293 hb
 replace BK294 := bb_ BK294 hb
 replace HB := bt_ HB hb
 try clear hb
 refine hK.out _ _ ⟨cz_ BK293 0, cz_ BK293 1, cz_ BK293 2⟩ (fun hHeld => ?_)
 clear hK K
 refine nm_ (some 14) ?_
 refine on_ HT_ 12 (some 20) (bv_ 20 8191) (fun K hK => ?_)
 refine gs_ Try.func162 #[.int .i64 a0, .int .i64 (wrap64 (a1_0 + 6))] ?_
 with_reducible refine (impl_power.calls k a0 (wrap64 (a1_0 + 6)) t296 _ A5.out).mono ?_
 rintro e w' ⟨rfl, ⟨nd, rfl⟩⟩
 refine ⟨_, rfl, ?_⟩
 refine hK.out _ _ ⟨cz_ BK293 0, cz_ BK293 1, cz_ BK293 2⟩ (fun hHeld => ?_)
 clear hK K
 refine nm_ (some 20) ?_
 refine px_ HT_ 13 21 16383 ?_
 refine px_ HT_ 14 22 32767 ?_
 refine on_ HT_ 15 (some 23) (bv_ 20 65535) (fun K hK => ?_)
 refine gs_ Try.func192 #[.int .i64 a0, .int .i64 (wrap64 (a1_0 + 1)), .int .i64 (wrap64 (t295 + (wrap64 (a2 * t296))))] ?_
 with_reducible refine (impl_ofMark.calls k a0 (wrap64 (a1_0 + 1)) (wrap64 (t295 + (wrap64 (a2 * t296)))) t297 t298 t299 t300 _ A6.out).mono ?_
 rintro e w11 ⟨rfl, hb⟩
 refine ⟨_, rfl, ?_⟩
 replace BK293 := bb_ BK293 hb
 replace BK294 := bb_ BK294 hb
 replace HB := bt_ HB hb
 try clear hb
 refine hK.out _ _ ⟨cz_ BK293 0, cz_ BK293 1, cz_ BK293 2⟩ (fun hHeld => ?_)
 clear hK K
 refine nm_ (some 23) ?_
 refine px_ HT_ 16 24 131071 ?_
 refine px_ HT_ 17 25 262143 ?_
 refine on_ HT_ 18 none (bv_ 20 524287) (fun K hK => ?_)
 have hs12 : w11.cell? ⟨gb294, 0, none⟩ = some (.int .i64 0) := (blk_cell BK294.out 0).trans rfl
 have hfs12 := blk_frozen BK294.out 0
 have hns12_0 := NB293_294.out
 have hms12_0 := NB294_293.out
 have hs13 : w11.cell? ⟨gb294, 1, none⟩ = some (.int .i64 0) := (blk_cell BK294.out 1).trans rfl
 have hfs13 := blk_frozen BK294.out 1
 have hns13_0 := NB293_294.out
 have hms13_0 := NB294_293.out
 have hs14 : w11.cell? ⟨gb294, 2, none⟩ = some (.int .i64 0) := (blk_cell BK294.out 2).trans rfl
 have hfs14 := blk_frozen BK294.out 2
 have hns14_0 := NB293_294.out
 have hms14_0 := NB294_293.out
 refine skip_ (w1 := ?_) (by rfl) rfl ?_ ?_
 rotate_left
 ·go_simp
  rfl
 refine hK.out _ _ ⟨(cg_ NB293_294 ((cg_ NB293_294 ((cg_ NB293_294 (hHeld.1)))))), (cg_ NB293_294 ((cg_ NB293_294 ((cg_ NB293_294 (hHeld.2.1)))))), (cg_ NB293_294 ((cg_ NB293_294 ((cg_ NB293_294 (hHeld.2.2))))))⟩ (fun hHeld => ?_)
 clear hK K
 refine px_ HT_ 19 7 1048575 ?_
 refine done_ (done_of HT_.out (by kernel_rfl)) ?_
 try go_wp2
 refine bodyPost_ret (results_ct rfl _ _ gb294 25 #[.int .i64 t297, .int .i64 t298, .int .i64 t299] (0, 0) _ rfl (bp_ BK294).out Try.underlying25 rfl (by kernel_rfl)) rfl ?_
 exact ⟨es_, (bw_ HB).out⟩
/-! ### impl_neighbour: function 150 -/
def impl_neighbour.f (k : Nat) (a0 a1_0 a1_1 a1_2 a2 : Int) : Option (Int × Int × Int × Bool) := if a2 = 0 then ((impl_parent.f k a0 a1_0 a1_1 a1_2).bind fun bt303 => (some (bt303.1, bt303.2.1, bt303.2.2.1, bt303.2.2.2))) else ((impl_child.f k a0 a1_0 a1_1 a1_2 (wrap64 (a2 - 1))).bind fun bt307 => (some (bt307.1, bt307.2.1, bt307.2.2.1, bt307.2.2.2)))
theorem impl_neighbour.calls (k : Nat) (a0 a1_0 a1_1 a1_2 a2 r1 r2 r3 : Int) (r4 : Bool) (w : World) (h : impl_neighbour.f k a0 a1_0 a1_1 a1_2 a2 = some (r1, r2, r3, r4)) :
  Calls Try.prog 150 #[.int .i64 a0, .agg #[.int .i64 a1_0, .int .i64 a1_1, .int .i64 a1_2], .int .i64 a2] w fun e w' => e = .returned (.tuple #[.agg #[.int .i64 r1, .int .i64 r2, .int .i64 r3], .bool r4]) ∧ Below w.heap.size w w' := by
 have hu25 := Try.underlying25
 have HB := Aside0.mk (Below.refl w.heap.size w)
 unfold impl_neighbour.f at h
 have H := h
 clear h
 replace H := ie_ H
 rcases H with ⟨c4b0, c4b1, H⟩ | ⟨c4, c4b0, c4b1, H⟩
 ·replace H := oc_ H
  obtain ⟨⟨t303, t304, t305, t306⟩, A5, H⟩ := H
  simp only [Option.some.injEq, Prod.mk.injEq] at H
  obtain ⟨rfl, rfl, rfl, rfl⟩ := H
  go_enter Try.func150, Try.ntmps150
  go_wp2_with (first | ((refine gd_ 4 ?_); refine by_ 4 #[.int .i64 a1_0, .int .i64 a1_1, .int .i64 a1_2] 25 HB ?_; intro gb301 hg w6 BK301 hb GW301 HB_; replace HB := HB_; clear hb hg) | ((refine gd_ 6 ?_); refine by_ 6 #[.int .i64 0, .int .i64 0, .int .i64 0] 25 HB ?_; intro gb302 hg w7 BK302 hb GW302 HB_; have NB301_302 := bm_ BK301 hg; have NB302_301 := bn_ BK301 hg; replace BK301 := bb_ BK301 hb; replace HB := HB_; clear hb hg; have hnb8 := NB301_302.out; have hnc8 := NB302_301.out; obtain ⟨hcz9_0, hcz9_1, hcz9_2, hfz9_0, hfz9_1, hfz9_2⟩ := ch3_ BK301) | ((refine gc_ 184 ?_); refine ge_ 12 Try.func184 #[.int .i64 a0, .agg #[.int .i64 a1_0, .int .i64 a1_1, .int .i64 a1_2]] ?_; (with_reducible refine (impl_parent.calls k a0 a1_0 a1_1 a1_2 t303 t304 t305 t306 _ A5.out).mono ?_); rintro e w10 ⟨rfl, hb⟩; refine ⟨_, rfl, ?_⟩; replace BK301 := bb_ BK301 hb; replace BK302 := bb_ BK302 hb; replace HB := bt_ HB hb; (try clear hb); obtain ⟨hcz11_0, hcz11_1, hcz11_2, hfz11_0, hfz11_1, hfz11_2⟩ := ch3_ BK302))
  refine bodyPost_ret (results_ct rfl _ _ gb302 25 #[.int .i64 t303, .int .i64 t304, .int .i64 t305] (0, 0) _ rfl (bp_ BK302).out Try.underlying25 rfl (by kernel_rfl)) rfl ?_
  exact ⟨es_, (bw_ HB).out⟩
 replace H := oc_ H
 obtain ⟨⟨t307, t308, t309, t310⟩, A12, H⟩ := H
 simp only [Option.some.injEq, Prod.mk.injEq] at H
 obtain ⟨rfl, rfl, rfl, rfl⟩ := H
 go_enter Try.func150, Try.ntmps150
 go_wp2_with (first | ((refine gd_ 4 ?_); refine by_ 4 #[.int .i64 a1_0, .int .i64 a1_1, .int .i64 a1_2] 25 HB ?_; intro gb301 hg w13 BK301 hb GW301 HB_; replace HB := HB_; clear hb hg) | ((refine gd_ 6 ?_); refine by_ 6 #[.int .i64 0, .int .i64 0, .int .i64 0] 25 HB ?_; intro gb302 hg w14 BK302 hb GW302 HB_; have NB301_302 := bm_ BK301 hg; have NB302_301 := bn_ BK301 hg; replace BK301 := bb_ BK301 hb; replace HB := HB_; clear hb hg; have hnb15 := NB301_302.out; have hnc15 := NB302_301.out; obtain ⟨hcz16_0, hcz16_1, hcz16_2, hfz16_0, hfz16_1, hfz16_2⟩ := ch3_ BK301) | ((refine gc_ 185 ?_); refine ge_ 19 Try.func185 #[.int .i64 a0, .agg #[.int .i64 a1_0, .int .i64 a1_1, .int .i64 a1_2], .int .i64 (wrap64 (a2 - 1))] ?_; (with_reducible refine (impl_child.calls k a0 a1_0 a1_1 a1_2 (wrap64 (a2 - 1)) t307 t308 t309 t310 _ A12.out).mono ?_); rintro e w17 ⟨rfl, hb⟩; refine ⟨_, rfl, ?_⟩; replace BK301 := bb_ BK301 hb; replace BK302 := bb_ BK302 hb; replace HB := bt_ HB hb; (try clear hb); obtain ⟨hcz18_0, hcz18_1, hcz18_2, hfz18_0, hfz18_1, hfz18_2⟩ := ch3_ BK302))
 refine bodyPost_ret (results_ct rfl _ _ gb302 25 #[.int .i64 t307, .int .i64 t308, .int .i64 t309] (0, 0) _ rfl (bp_ BK302).out Try.underlying25 rfl (by kernel_rfl)) rfl ?_
 exact ⟨es_, (bw_ HB).out⟩
attribute [local go_sem high] eqA25
/-! ### impl_toward: function 116 -/
def impl_toward.l0 : Nat → Int → Int → Int → Int → Int → Int → Int → Int → Option (Int)
 | 0, _, _, _, _, _, _, _, _ => none
 | k + 1, x0, x7, x312000, x312001, x312002, x313000, x313001, x313002 => if x7 ≤ x0 then ((impl_neighbour.f k x0 x312000 x312001 x312002 x7).bind fun bt313 => (if bt313.2.2.2 = true then (if (bt313.1 == x313000 && (bt313.2.1 == x313001 && (bt313.2.2.1 == x313002))) = true then (some x7) else (impl_toward.l0 k x0 (wrap64 (x7 + 1)) x312000 x312001 x312002 x313000 x313001 x313002)) else (impl_toward.l0 k x0 (wrap64 (x7 + 1)) x312000 x312001 x312002 x313000 x313001 x313002))) else (some 0)
def impl_toward.f (k : Nat) (a0 a1_0 a1_1 a1_2 a2_0 a2_1 a2_2 : Int) : Option (Int) := impl_toward.l0 k a0 1 a1_0 a1_1 a1_2 a2_0 a2_1 a2_2
theorem impl_toward.calls (k : Nat) (a0 a1_0 a1_1 a1_2 a2_0 a2_1 a2_2 r : Int) (w : World) (h : impl_toward.f k a0 a1_0 a1_1 a1_2 a2_0 a2_1 a2_2 = some r) :
  Calls Try.prog 116 #[.int .i64 a0, .agg #[.int .i64 a1_0, .int .i64 a1_1, .int .i64 a1_2], .agg #[.int .i64 a2_0, .int .i64 a2_1, .int .i64 a2_2]] w fun e w' => e = .returned (.int .i64 r) ∧ Below w.heap.size w w' := by
 have hu25 := Try.underlying25
 have HB := Aside0.mk (Below.refl w.heap.size w)
 unfold impl_toward.f at h
 have H := h
 clear h
 have H' := Aside0.mk H
 clear H
 go_enter Try.func116, Try.ntmps116
 go_wp2_with (first | ((refine gd_ 4 ?_); refine by_ 4 #[.int .i64 a1_0, .int .i64 a1_1, .int .i64 a1_2] 25 HB ?_; intro gb311 hg w4 BK311 hb GW311 HB_; replace HB := HB_; clear hb hg) | ((refine gd_ 5 ?_); refine by_ 5 #[.int .i64 a2_0, .int .i64 a2_1, .int .i64 a2_2] 25 HB ?_; intro gb312 hg w5 BK312 hb GW312 HB_; have NB311_312 := bm_ BK311 hg; have NB312_311 := bn_ BK311 hg; replace BK311 := bb_ BK311 hb; replace HB := HB_; clear hb hg))
 go_loopg [7] k (fun kq v7 w' => ∃ (x7_1 : Int), v7 = .int .i64 x7_1 ∧ Aside0 (impl_toward.l0 kq a0 x7_1 a1_0 a1_1 a1_2 a2_0 a2_1 a2_2 = some r) ∧ Aside0 (kq ≤ k) ∧ Aside0 (w'.heap[gb311]? = some (.cells #[.int .i64 a1_0, .int .i64 a1_1, .int .i64 a1_2] 25 (0, 0))) ∧ Aside0 (w'.heap[gb312]? = some (.cells #[.int .i64 a2_0, .int .i64 a2_1, .int .i64 a2_2] 25 (0, 0))) ∧ Aside0 (Below w.heap.size w w'))
 case atStart => exact ⟨(1), en_, H', ⟨Nat.le_refl _⟩, bl_ BK311, bl_ BK312, bw_ HB⟩
 clear H'
 obtain ⟨x7_1, rfl, HA, HK1, BK311, BK312, HB⟩ := hrel
 cases gk with
 | zero => exact absurd HA.out (by simp [impl_toward.l0])
 | succ k1 =>
  have H := HA.out
  clear HA
  simp only [impl_toward.l0] at H
  replace H := im_ H
  rcases H with ⟨c6b0, H⟩ | ⟨c6b0, H⟩
  ·replace H := oc_ H
   obtain ⟨⟨t313, t314, t315, t316⟩, A7, H⟩ := H
   replace H := ib_ H
   rcases H with ⟨rfl, H⟩ | ⟨rfl, H⟩
   ·by_cases c9 : (t313 == a2_0 && (t314 == a2_1 && (t315 == a2_2))) = true
    ·rw [if_pos c9] at H
     have c9b0 : (t313 == a2_0 && (t314 == a2_1 && (t315 == a2_2))) = true := c9
     (try (have c9b1 : decide (t313 = a2_0 && (t314 == a2_1 && (t315 == a2_2))) = true := by simpa using c9))
     (try (have c9b2 : (t313 == a2_0 && (t314 == a2_1 && (t315 == a2_2))) = true := by simpa using c9))
     clear c9
     obtain rfl := si_ H
     have hnb10 := NB311_312.out
     have hnc10 := NB312_311.out
     obtain ⟨hcz11_0, hcz11_1, hcz11_2, hfz11_0, hfz11_1, hfz11_2⟩ := ch3_ BK311
     go_wp2_with (first | ((refine gc_ 150 ?_); refine ge_ 19 Try.func150 #[.int .i64 a0, .agg #[.int .i64 a1_0, .int .i64 a1_1, .int .i64 a1_2], .int .i64 x7_1] ?_; (with_reducible refine (impl_neighbour.calls k1 a0 a1_0 a1_1 a1_2 x7_1 t313 t314 t315 true _ A7.out).mono ?_); rintro e w12 ⟨rfl, hb⟩; refine ⟨_, rfl, ?_⟩; replace BK311 := bb_ BK311 hb; replace BK312 := bb_ BK312 hb; replace HB := bt_ HB hb; (try clear hb)) | ((refine gd_ 8 ?_); refine by_ 8 #[.int .i64 0, .int .i64 0, .int .i64 0] 25 HB ?_; intro gb317 hg w13 BK317 hb GW317 HB_; have NB311_317 := bm_ BK311 hg; have NB317_311 := bn_ BK311 hg; have NB312_317 := bm_ BK312 hg; have NB317_312 := bn_ BK312 hg; replace BK311 := bb_ BK311 hb; replace BK312 := bb_ BK312 hb; replace HB := HB_; clear hb hg; have hnb14 := NB317_311.out; have hnc14 := NB311_317.out; have hnb15 := NB317_312.out; have hnc15 := NB312_317.out; obtain ⟨hcz16_0, hcz16_1, hcz16_2, hfz16_0, hfz16_1, hfz16_2⟩ := ch3_ BK317; obtain ⟨hcz17_0, hcz17_1, hcz17_2, hfz17_0, hfz17_1, hfz17_2⟩ := ch3_ BK312))
     go_ret
     exact ⟨es_, (bw_ HB).out⟩
    rw [if_neg c9] at H
    have c9b0 : (t313 == a2_0 && (t314 == a2_1 && (t315 == a2_2))) = false := by simpa using c9
    (try (have c9b1 : decide (t313 = a2_0 && (t314 == a2_1 && (t315 == a2_2))) = false := by simpa using c9))
    (try (have c9b2 : (t313 == a2_0 && (t314 == a2_1 && (t315 == a2_2))) = false := by simpa using c9))
    (try (have c9b3 : ¬ (t313 = a2_0 && (t314 == a2_1 && (t315 == a2_2))) := by simpa using c9))
    clear c9
    have H' := Aside0.mk H
    clear H
    have hnb18 := NB311_312.out
    have hnc18 := NB312_311.out
    obtain ⟨hcz19_0, hcz19_1, hcz19_2, hfz19_0, hfz19_1, hfz19_2⟩ := ch3_ BK311
    go_wp2_with (first | ((refine gc_ 150 ?_); refine ge_ 19 Try.func150 #[.int .i64 a0, .agg #[.int .i64 a1_0, .int .i64 a1_1, .int .i64 a1_2], .int .i64 x7_1] ?_; (with_reducible refine (impl_neighbour.calls k1 a0 a1_0 a1_1 a1_2 x7_1 t313 t314 t315 true _ A7.out).mono ?_); rintro e w20 ⟨rfl, hb⟩; refine ⟨_, rfl, ?_⟩; replace BK311 := bb_ BK311 hb; replace BK312 := bb_ BK312 hb; replace HB := bt_ HB hb; (try clear hb)) | ((refine gd_ 8 ?_); refine by_ 8 #[.int .i64 0, .int .i64 0, .int .i64 0] 25 HB ?_; intro gb317 hg w21 BK317 hb GW317 HB_; have NB311_317 := bm_ BK311 hg; have NB317_311 := bn_ BK311 hg; have NB312_317 := bm_ BK312 hg; have NB317_312 := bn_ BK312 hg; replace BK311 := bb_ BK311 hb; replace BK312 := bb_ BK312 hb; replace HB := HB_; clear hb hg; have hnb22 := NB317_311.out; have hnc22 := NB311_317.out; have hnb23 := NB317_312.out; have hnc23 := NB312_317.out; obtain ⟨hcz24_0, hcz24_1, hcz24_2, hfz24_0, hfz24_1, hfz24_2⟩ := ch3_ BK317; obtain ⟨hcz25_0, hcz25_1, hcz25_2, hfz25_0, hfz25_1, hfz25_2⟩ := ch3_ BK312))
    go_roundg k1
    case measure => have := HK1.out; omega
    case rel => exact ⟨(wrap64 (x7_1 + 1)), en_, H', ⟨by have := HK1.out; omega⟩, fl_ BK311 NB311_317, fl_ BK312 NB312_317, bw_ HB⟩
   have H' := Aside0.mk H
   clear H
   have hnb26 := NB311_312.out
   have hnc26 := NB312_311.out
   obtain ⟨hcz27_0, hcz27_1, hcz27_2, hfz27_0, hfz27_1, hfz27_2⟩ := ch3_ BK311
   go_wp2_with (first | ((refine gc_ 150 ?_); refine ge_ 19 Try.func150 #[.int .i64 a0, .agg #[.int .i64 a1_0, .int .i64 a1_1, .int .i64 a1_2], .int .i64 x7_1] ?_; (with_reducible refine (impl_neighbour.calls k1 a0 a1_0 a1_1 a1_2 x7_1 t313 t314 t315 false _ A7.out).mono ?_); rintro e w28 ⟨rfl, hb⟩; refine ⟨_, rfl, ?_⟩; replace BK311 := bb_ BK311 hb; replace BK312 := bb_ BK312 hb; replace HB := bt_ HB hb; (try clear hb)) | ((refine gd_ 8 ?_); refine by_ 8 #[.int .i64 0, .int .i64 0, .int .i64 0] 25 HB ?_; intro gb317 hg w29 BK317 hb GW317 HB_; have NB311_317 := bm_ BK311 hg; have NB317_311 := bn_ BK311 hg; have NB312_317 := bm_ BK312 hg; have NB317_312 := bn_ BK312 hg; replace BK311 := bb_ BK311 hb; replace BK312 := bb_ BK312 hb; replace HB := HB_; clear hb hg; have hnb30 := NB317_311.out; have hnc30 := NB311_317.out; have hnb31 := NB317_312.out; have hnc31 := NB312_317.out; obtain ⟨hcz32_0, hcz32_1, hcz32_2, hfz32_0, hfz32_1, hfz32_2⟩ := ch3_ BK317))
   go_roundg k1
   case measure => have := HK1.out; omega
   case rel => exact ⟨(wrap64 (x7_1 + 1)), en_, H', ⟨by have := HK1.out; omega⟩, fl_ BK311 NB311_317, fl_ BK312 NB312_317, bw_ HB⟩
  obtain rfl := si_ H
  go_wp2
  go_ret
  exact ⟨es_, (bw_ HB).out⟩
/-! ### impl_firstChild: function 117 -/
def impl_firstChild.f (a0 a1 : Int) : Option (Int) := if a1 = 0 then (some 1) else (some (wrap64 ((wrap64 (a0 + 2)) + (wrap64 ((wrap64 (a1 - 1)) * a0)))))
theorem impl_firstChild.calls (a0 a1 r : Int) (w : World) (h : impl_firstChild.f a0 a1 = some r) :
  Calls Try.prog 117 #[.int .i64 a0, .int .i64 a1] w fun e w' => e = .returned (.int .i64 r) ∧ Drawn0 w w' := by
 unfold impl_firstChild.f at h
 have H := h
 clear h
 replace H := ie_ H
 rcases H with ⟨c3b0, c3b1, H⟩ | ⟨c3, c3b0, c3b1, H⟩
 ·obtain rfl := si_ H
  go_enter Try.func117, Try.ntmps117
  go_wp2
  go_ret
  exact ⟨en_, de_⟩
 obtain rfl := si_ H
 go_enter Try.func117, Try.ntmps117
 go_wp2
 go_ret
 exact ⟨en_, de_⟩
end Go.Proofs.Ytgoeelhiffbjlaa.QP
