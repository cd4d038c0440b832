import Derived.Test.YtgoeelhiffbjlaaQPx9
import Derived.Test.YtgoeelhiffbjlaaQPx31
import Derived.Test.YtgoeelhiffbjlaaQPx37
namespace Go.Proofs.Ytgoeelhiffbjlaa.QP
open Go.RowKit Go.Proofs.YtgoeelhiffbjlaaW.PrintWords Go.Proofs.YtgoeelhiffbjlaaW.PrintLast Go.Proofs.YtgoeelhiffbjlaaW.PrintMore
attribute [local go_sem] isSome_setCell max2_int min2_int max_two min_two max_three min_three max_four min_four
set_option linter.unusedVariables false
set_option linter.unusedSimpArgs false

/-! ### impl_ballOfPlace: function 112 -/
def impl_ballOfPlace.f : Nat → Int → Int → Int → Int → Int → Option (Int × Int × Int × Int × Int × Int × Bool)
 | 0, _, _, _, _, _ => none
 | k + 1, a0, a1_0, a1_1, a1_2, a2 => if a2 = 0 then (some (a1_0, a1_1, a1_2, a1_0, a1_1, a1_2, true)) else ((impl_parentPlace.f a0 a2).bind fun t321 => ((impl_ballOfPlace.f k a0 a1_0 a1_1 a1_2 t321).bind fun bt322 => (if bt322.2.2.2.2.2.2 = true then ((impl_firstChild.f a0 t321).bind fun t331 => (if t321 > 0 then ((impl_toward.f k a0 bt322.1 bt322.2.1 bt322.2.2.1 bt322.2.2.2.1 bt322.2.2.2.2.1 bt322.2.2.2.2.2.1).bind fun t332 => (if (wrap64 (a2 - t331)) ≥ t332 then ((impl_neighbour.f k a0 bt322.1 bt322.2.1 bt322.2.2.1 (wrap64 ((wrap64 (a2 - t331)) + 1))).bind fun bt333 => (some (bt333.1, bt333.2.1, bt333.2.2.1, bt322.1, bt322.2.1, bt322.2.2.1, bt333.2.2.2))) else ((impl_neighbour.f k a0 bt322.1 bt322.2.1 bt322.2.2.1 (wrap64 (a2 - t331))).bind fun bt338 => (some (bt338.1, bt338.2.1, bt338.2.2.1, bt322.1, bt322.2.1, bt322.2.2.1, bt338.2.2.2))))) else ((impl_neighbour.f k a0 bt322.1 bt322.2.1 bt322.2.2.1 (wrap64 (a2 - t331))).bind fun bt343 => (some (bt343.1, bt343.2.1, bt343.2.2.1, bt322.1, bt322.2.1, bt322.2.2.1, bt343.2.2.2))))) else (some (0, 0, 0, 0, 0, 0, false)))))
set_option maxHeartbeats 8000000 in
set_option maxRecDepth 100000 in
theorem impl_ballOfPlace.calls (k : Nat) : ∀ (a0 a1_0 a1_1 a1_2 a2 r1 r2 r3 r4 r5 r6 : Int) (r7 : Bool) (w : World) (h : impl_ballOfPlace.f k a0 a1_0 a1_1 a1_2 a2 = some (r1, r2, r3, r4, r5, r6, r7)),
  Calls Try.prog 112 #[.int .i64 a0, .agg #[.int .i64 a1_0, .int .i64 a1_1, .int .i64 a1_2], .int .i64 a2] w fun e w' => e = .returned (.tuple #[.agg #[.int .i64 r1, .int .i64 r2, .int .i64 r3], .agg #[.int .i64 r4, .int .i64 r5, .int .i64 r6], .bool r7]) ∧ Below w.heap.size w w' := by
 induction k using Nat.strongRecOn with
 | _ k ih =>
 intro a0 a1_0 a1_1 a1_2 a2 r1 r2 r3 r4 r5 r6 r7 w h
 cases k with
 | zero => exact absurd h (by simp [impl_ballOfPlace.f])
 | succ k =>
 simp only [impl_ballOfPlace.f] at h
 have hu25 := Try.underlying25
 have HB := Aside0.mk (Below.refl w.heap.size w)
 have H : (if a2 = 0 then (some (a1_0, a1_1, a1_2, a1_0, a1_1, a1_2, true)) else ((impl_parentPlace.f a0 a2).bind fun t321 => ((impl_ballOfPlace.f k a0 a1_0 a1_1 a1_2 t321).bind fun bt322 => (if bt322.2.2.2.2.2.2 = true then ((impl_firstChild.f a0 t321).bind fun t331 => (if t321 > 0 then ((impl_toward.f k a0 bt322.1 bt322.2.1 bt322.2.2.1 bt322.2.2.2.1 bt322.2.2.2.2.1 bt322.2.2.2.2.2.1).bind fun t332 => (if (wrap64 (a2 - t331)) ≥ t332 then ((impl_neighbour.f k a0 bt322.1 bt322.2.1 bt322.2.2.1 (wrap64 ((wrap64 (a2 - t331)) + 1))).bind fun bt333 => (some (bt333.1, bt333.2.1, bt333.2.2.1, bt322.1, bt322.2.1, bt322.2.2.1, bt333.2.2.2))) else ((impl_neighbour.f k a0 bt322.1 bt322.2.1 bt322.2.2.1 (wrap64 (a2 - t331))).bind fun bt338 => (some (bt338.1, bt338.2.1, bt338.2.2.1, bt322.1, bt322.2.1, bt322.2.2.1, bt338.2.2.2))))) else ((impl_neighbour.f k a0 bt322.1 bt322.2.1 bt322.2.2.1 (wrap64 (a2 - t331))).bind fun bt343 => (some (bt343.1, bt343.2.1, bt343.2.2.1, bt322.1, bt322.2.1, bt322.2.2.1, bt343.2.2.2))))) else (some (0, 0, 0, 0, 0, 0, false)))))) = some (r1, r2, r3, r4, r5, r6, r7) := h
 clear h
 replace H := ie_ H
 rcases H with ⟨c4b0, c4b1, H⟩ | ⟨c4, c4b0, c4b1, H⟩
 ·simp only [Option.some.injEq, Prod.mk.injEq] at H
  obtain ⟨rfl, rfl, rfl, rfl, rfl, rfl, rfl⟩ := H
  go_enter Try.func112, Try.ntmps112
  try go_wp2_with (first | ((refine gd_ 4 ?_); refine by_ 4 #[.int .i64 a1_0, .int .i64 a1_1, .int .i64 a1_2] 25 HB ?_; intro gb318 hg w5 BK318 hb GW318 HB_; replace HB := HB_; clear hb hg) | ((refine gd_ 6 ?_); refine by_ 6 #[.int .i64 0, .int .i64 0, .int .i64 0] 25 HB ?_; intro gb319 hg w6 BK319 hb GW319 HB_; have NB318_319 := bm_ BK318 hg; have NB319_318 := bn_ BK318 hg; replace BK318 := bb_ BK318 hb; replace HB := HB_; clear hb hg) | ((refine gd_ 7 ?_); refine by_ 7 #[.int .i64 0, .int .i64 0, .int .i64 0] 25 HB ?_; intro gb320 hg w7 BK320 hb GW320 HB_; have NB318_320 := bm_ BK318 hg; have NB320_318 := bn_ BK318 hg; have NB319_320 := bm_ BK319 hg; have NB320_319 := bn_ BK319 hg; replace BK318 := bb_ BK318 hb; replace BK319 := bb_ BK319 hb; replace HB := HB_; clear hb hg))
  replace BK318 := bd_ BK318
  replace BK319 := bd_ BK319
  replace BK320 := bd_ BK320
  replace HB := be_ HB
  refine start_ (n := 5) (S := fun w' => w'.cell? ⟨gb318, 0, none⟩ = some (.int .i64 a1_0) ∧ w'.cell? ⟨gb318, 1, none⟩ = some (.int .i64 a1_1) ∧ w'.cell? ⟨gb318, 2, none⟩ = some (.int .i64 a1_2)) (ds := []) (bv_ 5 0) (by kernel_rfl) rfl rfl ⟨cz_ BK318 0, cz_ BK318 1, cz_ BK318 2⟩ (fun hHeld => ?_)
  generalize w7.drew = w8 at BK318 BK319 BK320 HB hHeld ⊢
  refine take_ (i := 0) (N := some 18) (v := ?_) (a' := ?_) (bv_ 5 1) rfl rfl (by kernel_rfl) (fun _ _ _ h => h) (Or.inl ⟨by rfl, ?_⟩) hHeld ?_ ?_
  rotate_left
  ·rintro w' ⟨s0, s1, s2⟩
   go_simp
   with_reducible rfl
  rotate_left
  ·simp only [Act.put, lstS, lstZ, lstC, i64_w, i32_w]
   rfl
  refine take_ (i := 1) (N := some 19) (v := ?_) (a' := ?_) (bv_ 5 3) rfl rfl (by kernel_rfl) (fun _ _ _ h => h) (Or.inl ⟨by rfl, ?_⟩) hHeld ?_ ?_
  rotate_left
  ·rintro w' ⟨s0, s1, s2⟩
   go_simp
   with_reducible rfl
  rotate_left
  ·simp only [Act.put, lstS, lstZ, lstC, i64_w, i32_w]
   rfl
  refine one_ (i := 2) (N := none) (bv_ 5 7) rfl rfl (by kernel_rfl) (by decide) (fun K hK => ?_)
  have hs9 : w8.cell? ⟨gb319, 0, none⟩ = some (.int .i64 0) := (blk_cell BK319.out 0).trans rfl
  have hfs9 := blk_frozen BK319.out 0
  have hns9_0 := NB318_319.out
  have hns9_2 := NB320_319.out
  have hms9_0 := NB319_318.out
  have hms9_2 := NB319_320.out
  have hs10 : w8.cell? ⟨gb319, 1, none⟩ = some (.int .i64 0) := (blk_cell BK319.out 1).trans rfl
  have hfs10 := blk_frozen BK319.out 1
  have hns10_0 := NB318_319.out
  have hns10_2 := NB320_319.out
  have hms10_0 := NB319_318.out
  have hms10_2 := NB319_320.out
  have hs11 : w8.cell? ⟨gb319, 2, none⟩ = some (.int .i64 0) := (blk_cell BK319.out 2).trans rfl
  have hfs11 := blk_frozen BK319.out 2
  have hns11_0 := NB318_319.out
  have hns11_2 := NB320_319.out
  have hms11_0 := NB319_318.out
  have hms11_2 := NB319_320.out
  refine skip_ (w1 := ?_) (by rfl) rfl ?_ ?_
  rotate_left
  ·go_simp
   rfl
  refine hK.out _ _ ⟨(cg_ NB318_319 ((cg_ NB318_319 ((cg_ NB318_319 (hHeld.1)))))), (cg_ NB318_319 ((cg_ NB318_319 ((cg_ NB318_319 (hHeld.2.1)))))), (cg_ NB318_319 ((cg_ NB318_319 ((cg_ NB318_319 (hHeld.2.2))))))⟩ (fun hHeld => ?_)
  clear hK K
  refine one_ (i := 3) (N := none) (bv_ 5 15) rfl rfl (by kernel_rfl) (by decide) (fun K hK => ?_)
  have hs12 : w8.cell? ⟨gb320, 0, none⟩ = some (.int .i64 0) := (blk_cell BK320.out 0).trans rfl
  have hfs12 := blk_frozen BK320.out 0
  have hns12_0 := NB318_320.out
  have hns12_1 := NB319_320.out
  have hms12_0 := NB320_318.out
  have hms12_1 := NB320_319.out
  have hs13 : w8.cell? ⟨gb320, 1, none⟩ = some (.int .i64 0) := (blk_cell BK320.out 1).trans rfl
  have hfs13 := blk_frozen BK320.out 1
  have hns13_0 := NB318_320.out
  have hns13_1 := NB319_320.out
  have hms13_0 := NB320_318.out
  have hms13_1 := NB320_319.out
  have hs14 : w8.cell? ⟨gb320, 2, none⟩ = some (.int .i64 0) := (blk_cell BK320.out 2).trans rfl
  have hfs14 := blk_frozen BK320.out 2
  have hns14_0 := NB318_320.out
  have hns14_1 := NB319_320.out
  have hms14_0 := NB320_318.out
  have hms14_1 := NB320_319.out
  refine skip_ (w1 := ?_) (by rfl) rfl ?_ ?_
  rotate_left
  ·go_simp
   rfl
  refine hK.out _ _ ⟨(cg_ NB318_320 ((cg_ NB318_320 ((cg_ NB318_320 (hHeld.1)))))), (cg_ NB318_320 ((cg_ NB318_320 ((cg_ NB318_320 (hHeld.2.1)))))), (cg_ NB318_320 ((cg_ NB318_320 ((cg_ NB318_320 (hHeld.2.2))))))⟩ (fun hHeld => ?_)
  clear hK K
  refine pure_ (i := 4) (N := some 8) (v := ?_) (a' := ?_) (bv_ 5 31) rfl rfl (by kernel_rfl) (fun _ _ _ h => h) (Or.inl ⟨by rfl, ?_⟩) ?_ ?_
  rotate_left
  ·intro w'
   go_simp
   with_reducible rfl
  rotate_left
  ·simp only [Act.put, lstS, lstZ, lstC, i64_w, i32_w]
   rfl
  refine done_ (by kernel_rfl) ?_
  try go_wp2
  refine bodyPost_ret (results_list (rs := [.cell 6 25, .cell 7 25, .tmp 8]) rfl (by simp) (.cell gb319 25 #[.int .i64 a1_0, .int .i64 a1_1, .int .i64 a1_2] (0, 0) _ rfl (bp_ BK319).out Try.underlying25 rfl (by kernel_rfl) (.cell gb320 25 #[.int .i64 a1_0, .int .i64 a1_1, .int .i64 a1_2] (0, 0) _ rfl (bp_ BK320).out Try.underlying25 rfl (by kernel_rfl) (.tmp .nil)))) rfl ?_
  exact ⟨es_, (bw_ HB).out⟩
 replace H := oc_ H
 obtain ⟨t321, A15, H⟩ := H
 replace H := oc_ H
 obtain ⟨⟨t322, t323, t324, t325, t326, t327, t328⟩, A16, H⟩ := H
 replace H := ib_ H
 rcases H with ⟨rfl, H⟩ | ⟨rfl, H⟩
 ·replace H := oc_ H
  obtain ⟨t331, A18, H⟩ := H
  replace H := ig_ H
  rcases H with ⟨c19b0, H⟩ | ⟨c19b0, H⟩
  ·replace H := oc_ H
   obtain ⟨t332, A20, H⟩ := H
   replace H := in_ H
   rcases H with ⟨c21b0, H⟩ | ⟨c21b0, H⟩
   ·replace H := oc_ H
    obtain ⟨⟨t333, t334, t335, t336⟩, A22, H⟩ := H
    simp only [Option.some.injEq, Prod.mk.injEq] at H
    obtain ⟨rfl, rfl, rfl, rfl, rfl, rfl, rfl⟩ := H
    go_enter Try.func112, Try.ntmps112
    try go_wp2_with (first | ((refine gd_ 4 ?_); refine by_ 4 #[.int .i64 a1_0, .int .i64 a1_1, .int .i64 a1_2] 25 HB ?_; intro gb318 hg w23 BK318 hb GW318 HB_; replace HB := HB_; clear hb hg) | ((refine gd_ 6 ?_); refine by_ 6 #[.int .i64 0, .int .i64 0, .int .i64 0] 25 HB ?_; intro gb319 hg w24 BK319 hb GW319 HB_; have NB318_319 := bm_ BK318 hg; have NB319_318 := bn_ BK318 hg; replace BK318 := bb_ BK318 hb; replace HB := HB_; clear hb hg) | ((refine gd_ 7 ?_); refine by_ 7 #[.int .i64 0, .int .i64 0, .int .i64 0] 25 HB ?_; intro gb320 hg w25 BK320 hb GW320 HB_; have NB318_320 := bm_ BK318 hg; have NB320_318 := bn_ BK318 hg; have NB319_320 := bm_ BK319 hg; have NB320_319 := bn_ BK319 hg; replace BK318 := bb_ BK318 hb; replace BK319 := bb_ BK319 hb; replace HB := HB_; clear hb hg) | ((refine gc_ 119 ?_); refine ge_ 22 Try.func119 #[.int .i64 a0, .int .i64 a2] ?_; (with_reducible refine (impl_parentPlace.calls a0 a2 t321 _ A15.out).mono ?_); rintro e w' ⟨rfl, ⟨nd, rfl⟩⟩; refine ⟨_, rfl, ?_⟩; (try (rw [drewN_self w25]; generalize hq_ : World.drewN w25 _ = w25; replace BK318 := bq_ BK318 hq_; replace BK319 := bq_ BK319 hq_; replace BK320 := bq_ BK320 hq_; replace HB := hq_' HB hq_; clear hq_)); have hnb26 := NB318_319.out; have hnc26 := NB319_318.out; have hnb27 := NB318_320.out; have hnc27 := NB320_318.out; obtain ⟨hcz28_0, hcz28_1, hcz28_2, hfz28_0, hfz28_1, hfz28_2⟩ := ch3_ BK318) | ((refine gc_ 112 ?_); refine ge_ 27 Try.func112 #[.int .i64 a0, .agg #[.int .i64 a1_0, .int .i64 a1_1, .int .i64 a1_2], .int .i64 t321] ?_; (with_reducible refine (ih k (by omega) a0 a1_0 a1_1 a1_2 t321 t322 t323 t324 t325 t326 t327 true _ A16.out).mono ?_); rintro e w29 ⟨rfl, hb⟩; refine ⟨_, rfl, ?_⟩; replace BK318 := bb_ BK318 hb; replace BK319 := bb_ BK319 hb; replace BK320 := bb_ BK320 hb; replace HB := bt_ HB hb; (try clear hb)) | ((refine gd_ 10 ?_); refine by_ 10 #[.int .i64 0, .int .i64 0, .int .i64 0] 25 HB ?_; intro gb329 hg w30 BK329 hb GW329 HB_; have NB318_329 := bm_ BK318 hg; have NB329_318 := bn_ BK318 hg; have NB319_329 := bm_ BK319 hg; have NB329_319 := bn_ BK319 hg; have NB320_329 := bm_ BK320 hg; have NB329_320 := bn_ BK320 hg; replace BK318 := bb_ BK318 hb; replace BK319 := bb_ BK319 hb; replace BK320 := bb_ BK320 hb; replace HB := HB_; clear hb hg) | ((refine gd_ 11 ?_); refine by_ 11 #[.int .i64 0, .int .i64 0, .int .i64 0] 25 HB ?_; intro gb330 hg w31 BK330 hb GW330 HB_; have NB318_330 := bm_ BK318 hg; have NB330_318 := bn_ BK318 hg; have NB319_330 := bm_ BK319 hg; have NB330_319 := bn_ BK319 hg; have NB320_330 := bm_ BK320 hg; have NB330_320 := bn_ BK320 hg; have NB329_330 := bm_ BK329 hg; have NB330_329 := bn_ BK329 hg; replace BK318 := bb_ BK318 hb; replace BK319 := bb_ BK319 hb; replace BK320 := bb_ BK320 hb; replace BK329 := bb_ BK329 hb; replace HB := HB_; clear hb hg; have hnb32 := NB329_318.out; have hnc32 := NB318_329.out; have hnb33 := NB329_319.out; have hnc33 := NB319_329.out; have hnb34 := NB329_320.out; have hnc34 := NB320_329.out; have hnb35 := NB329_330.out; have hnc35 := NB330_329.out; obtain ⟨hcz36_0, hcz36_1, hcz36_2, hfz36_0, hfz36_1, hfz36_2⟩ := ch3_ BK329; have hnb37 := NB330_318.out; have hnc37 := NB318_330.out; have hnb38 := NB330_319.out; have hnc38 := NB319_330.out; have hnb39 := NB330_320.out; have hnc39 := NB320_330.out; obtain ⟨hcz40_0, hcz40_1, hcz40_2, hfz40_0, hfz40_1, hfz40_2⟩ := ch3_ BK330) | ((refine gc_ 117 ?_); refine ge_ 38 Try.func117 #[.int .i64 a0, .int .i64 t321] ?_; (with_reducible refine (impl_firstChild.calls a0 t321 t331 _ A18.out).mono ?_); rintro e w' ⟨rfl, ⟨nd, rfl⟩⟩; refine ⟨_, rfl, ?_⟩) | (go_at_call 116; (with_reducible refine (impl_toward.calls k a0 t322 t323 t324 t325 t326 t327 t332 _ A20.out).mono ?_); rintro e w41 ⟨rfl, hb⟩; replace BK318 := Aside0.mk (blk_below (g := gb318) (o := .cells #[.int .i64 a1_0, .int .i64 a1_1, .int .i64 a1_2] 25 (0, 0)) (bp_ BK318).out hb); replace BK319 := Aside0.mk (blk_below (g := gb319) (o := .cells #[.int .i64 0, .int .i64 0, .int .i64 0] 25 (0, 0)) (bp_ BK319).out hb); replace BK320 := Aside0.mk (blk_below (g := gb320) (o := .cells #[.int .i64 0, .int .i64 0, .int .i64 0] 25 (0, 0)) (bp_ BK320).out hb); replace BK329 := Aside0.mk (blk_below (g := gb329) (o := .cells #[.int .i64 t322, .int .i64 t323, .int .i64 t324] 25 (0, 0)) (bp_ BK329).out hb); replace BK330 := Aside0.mk (blk_below (g := gb330) (o := .cells #[.int .i64 t325, .int .i64 t326, .int .i64 t327] 25 (0, 0)) (bp_ BK330).out hb); replace HB := bt_ HB hb; (try clear hb); obtain ⟨hcz42_0, hcz42_1, hcz42_2, hfz42_0, hfz42_1, hfz42_2⟩ := ch3_ BK329) | ((refine gc_ 150 ?_); refine ge_ 56 Try.func150 #[.int .i64 a0, .agg #[.int .i64 t322, .int .i64 t323, .int .i64 t324], .int .i64 (wrap64 ((wrap64 (a2 - t331)) + 1))] ?_; (with_reducible refine (impl_neighbour.calls k a0 t322 t323 t324 (wrap64 ((wrap64 (a2 - t331)) + 1)) t333 t334 t335 t336 _ A22.out).mono ?_); rintro e w43 ⟨rfl, hb⟩; refine ⟨_, rfl, ?_⟩; replace BK318 := bb_ BK318 hb; replace BK319 := bb_ BK319 hb; replace BK320 := bb_ BK320 hb; replace BK329 := bb_ BK329 hb; replace BK330 := bb_ BK330 hb; replace HB := bt_ HB hb; (try clear hb)) | ((refine gd_ 14 ?_); refine by_ 14 #[.int .i64 0, .int .i64 0, .int .i64 0] 25 HB ?_; intro gb337 hg w44 BK337 hb GW337 HB_; have NB318_337 := bm_ BK318 hg; have NB337_318 := bn_ BK318 hg; have NB319_337 := bm_ BK319 hg; have NB337_319 := bn_ BK319 hg; have NB320_337 := bm_ BK320 hg; have NB337_320 := bn_ BK320 hg; have NB329_337 := bm_ BK329 hg; have NB337_329 := bn_ BK329 hg; have NB330_337 := bm_ BK330 hg; have NB337_330 := bn_ BK330 hg; replace BK318 := bb_ BK318 hb; replace BK319 := bb_ BK319 hb; replace BK320 := bb_ BK320 hb; replace BK329 := bb_ BK329 hb; replace BK330 := bb_ BK330 hb; replace HB := HB_; clear hb hg; have hnb45 := NB337_318.out; have hnc45 := NB318_337.out; have hnb46 := NB337_319.out; have hnc46 := NB319_337.out; have hnb47 := NB337_320.out; have hnc47 := NB320_337.out; have hnb48 := NB337_329.out; have hnc48 := NB329_337.out; have hnb49 := NB337_330.out; have hnc49 := NB330_337.out; obtain ⟨hcz50_0, hcz50_1, hcz50_2, hfz50_0, hfz50_1, hfz50_2⟩ := ch3_ BK337))
    have n0_ : Aside0 ((((w44.setCell ⟨gb337, 0, none⟩ (.int .i64 t333)).setCell ⟨gb337, 1, none⟩ (.int .i64 t334)).setCell ⟨gb337, 2, none⟩ (.int .i64 t335)).heap[gb318]? = some (.cells #[.int .i64 a1_0, .int .i64 a1_1, .int .i64 a1_2] 25 (0, 0))) := fl_ BK318 NB318_337
    have n1_ : Aside0 ((((w44.setCell ⟨gb337, 0, none⟩ (.int .i64 t333)).setCell ⟨gb337, 1, none⟩ (.int .i64 t334)).setCell ⟨gb337, 2, none⟩ (.int .i64 t335)).heap[gb319]? = some (.cells #[.int .i64 0, .int .i64 0, .int .i64 0] 25 (0, 0))) := fl_ BK319 NB319_337
    have n2_ : Aside0 ((((w44.setCell ⟨gb337, 0, none⟩ (.int .i64 t333)).setCell ⟨gb337, 1, none⟩ (.int .i64 t334)).setCell ⟨gb337, 2, none⟩ (.int .i64 t335)).heap[gb320]? = some (.cells #[.int .i64 0, .int .i64 0, .int .i64 0] 25 (0, 0))) := fl_ BK320 NB320_337
    have n3_ : Aside0 ((((w44.setCell ⟨gb337, 0, none⟩ (.int .i64 t333)).setCell ⟨gb337, 1, none⟩ (.int .i64 t334)).setCell ⟨gb337, 2, none⟩ (.int .i64 t335)).heap[gb329]? = some (.cells #[.int .i64 t322, .int .i64 t323, .int .i64 t324] 25 (0, 0))) := fl_ BK329 NB329_337
    have n4_ : Aside0 ((((w44.setCell ⟨gb337, 0, none⟩ (.int .i64 t333)).setCell ⟨gb337, 1, none⟩ (.int .i64 t334)).setCell ⟨gb337, 2, none⟩ (.int .i64 t335)).heap[gb330]? = some (.cells #[.int .i64 t325, .int .i64 t326, .int .i64 t327] 25 (0, 0))) := fl_ BK330 NB330_337
    have n5_ : Aside0 ((((w44.setCell ⟨gb337, 0, none⟩ (.int .i64 t333)).setCell ⟨gb337, 1, none⟩ (.int .i64 t334)).setCell ⟨gb337, 2, none⟩ (.int .i64 t335)).heap[gb337]? = some (.cells #[.int .i64 t333, .int .i64 t334, .int .i64 t335] 25 (0, 0))) := bp_ BK337
    have n6_ : Aside0 (Below w.heap.size w (((w44.setCell ⟨gb337, 0, none⟩ (.int .i64 t333)).setCell ⟨gb337, 1, none⟩ (.int .i64 t334)).setCell ⟨gb337, 2, none⟩ (.int .i64 t335))) := bw_ HB
    (try clear BK318)
    (try clear BK319)
    (try clear BK320)
    (try clear BK329)
    (try clear BK330)
    (try clear BK337)
    (try clear HB)
    generalize (((w44.setCell ⟨gb337, 0, none⟩ (.int .i64 t333)).setCell ⟨gb337, 1, none⟩ (.int .i64 t334)).setCell ⟨gb337, 2, none⟩ (.int .i64 t335)) = w51 at n0_ n1_ n2_ n3_ n4_ n5_ n6_ ⊢
    have BK318 := n0_
    have BK319 := n1_
    have BK320 := n2_
    have BK329 := n3_
    have BK330 := n4_
    have BK337 := n5_
    have HB := n6_
    clear n0_ n1_ n2_ n3_ n4_ n5_ n6_
    replace BK318 := bd_ BK318
    replace BK319 := bd_ BK319
    replace BK320 := bd_ BK320
    replace BK329 := bd_ BK329
    replace BK330 := bd_ BK330
    replace BK337 := bd_ BK337
    replace HB := be_ HB
    refine start_ (n := 6) (S := fun w' => w'.cell? ⟨gb337, 0, none⟩ = some (.int .i64 t333) ∧ w'.cell? ⟨gb337, 1, none⟩ = some (.int .i64 t334) ∧ w'.cell? ⟨gb337, 2, none⟩ = some (.int .i64 t335) ∧ w'.cell? ⟨gb329, 0, none⟩ = some (.int .i64 t322) ∧ w'.cell? ⟨gb329, 1, none⟩ = some (.int .i64 t323) ∧ w'.cell? ⟨gb329, 2, none⟩ = some (.int .i64 t324)) (ds := []) (bv_ 6 0) (by kernel_rfl) rfl rfl ⟨cz_ BK337 0, cz_ BK337 1, cz_ BK337 2, cz_ BK329 0, cz_ BK329 1, cz_ BK329 2⟩ (fun hHeld => ?_)
    generalize w51.drew = w52 at BK318 BK319 BK320 BK329 BK330 BK337 HB hHeld ⊢
    refine pure_ (i := 2) (N := some 61) (v := ?_) (a' := ?_) (bv_ 6 4) rfl rfl (by kernel_rfl) (fun _ _ _ h => h) (Or.inl ⟨by rfl, ?_⟩) ?_ ?_
    rotate_left
    ·intro w'
     go_simp
     with_reducible rfl
    rotate_left
    ·simp only [Act.put, lstS, lstZ, lstC, i64_w, i32_w]
     rfl
    refine take_ (i := 0) (N := some 59) (v := ?_) (a' := ?_) (bv_ 6 5) rfl rfl (by kernel_rfl) (fun _ _ _ h => h) (Or.inl ⟨by rfl, ?_⟩) hHeld ?_ ?_
    rotate_left
    ·rintro w' ⟨s0, s1, s2, s3, s4, s5⟩
     go_simp
     with_reducible rfl
    rotate_left
    ·simp only [Act.put, lstS, lstZ, lstC, i64_w, i32_w]
     rfl
    refine take_ (i := 1) (N := some 60) (v := ?_) (a' := ?_) (bv_ 6 7) rfl rfl (by kernel_rfl) (fun _ _ _ h => h) (Or.inl ⟨by rfl, ?_⟩) hHeld ?_ ?_
    rotate_left
    ·rintro w' ⟨s0, s1, s2, s3, s4, s5⟩
     go_simp
     with_reducible rfl
    rotate_left
    ·simp only [Act.put, lstS, lstZ, lstC, i64_w, i32_w]
     rfl
    refine one_ (i := 3) (N := none) (bv_ 6 15) rfl rfl (by kernel_rfl) (by decide) (fun K hK => ?_)
    have hs53 : w52.cell? ⟨gb319, 0, none⟩ = some (.int .i64 0) := (blk_cell BK319.out 0).trans rfl
    have hfs53 := blk_frozen BK319.out 0
    have hns53_0 := NB318_319.out
    have hns53_2 := NB320_319.out
    have hns53_3 := NB329_319.out
    have hns53_4 := NB330_319.out
    have hns53_5 := NB337_319.out
    have hms53_0 := NB319_318.out
    have hms53_2 := NB319_320.out
    have hms53_3 := NB319_329.out
    have hms53_4 := NB319_330.out
    have hms53_5 := NB319_337.out
    have hs54 : w52.cell? ⟨gb319, 1, none⟩ = some (.int .i64 0) := (blk_cell BK319.out 1).trans rfl
    have hfs54 := blk_frozen BK319.out 1
    have hns54_0 := NB318_319.out
    have hns54_2 := NB320_319.out
    have hns54_3 := NB329_319.out
    have hns54_4 := NB330_319.out
    have hns54_5 := NB337_319.out
    have hms54_0 := NB319_318.out
    have hms54_2 := NB319_320.out
    have hms54_3 := NB319_329.out
    have hms54_4 := NB319_330.out
    have hms54_5 := NB319_337.out
    have hs55 : w52.cell? ⟨gb319, 2, none⟩ = some (.int .i64 0) := (blk_cell BK319.out 2).trans rfl
    have hfs55 := blk_frozen BK319.out 2
    have hns55_0 := NB318_319.out
    have hns55_2 := NB320_319.out
    have hns55_3 := NB329_319.out
    have hns55_4 := NB330_319.out
    have hns55_5 := NB337_319.out
    have hms55_0 := NB319_318.out
    have hms55_2 := NB319_320.out
    have hms55_3 := NB319_329.out
    have hms55_4 := NB319_330.out
    have hms55_5 := NB319_337.out
    refine skip_ (w1 := ?_) (by rfl) rfl ?_ ?_
    rotate_left
    ·go_simp
     rfl
    refine hK.out _ _ ⟨(cg_ NB337_319 ((cg_ NB337_319 ((cg_ NB337_319 (hHeld.1)))))), (cg_ NB337_319 ((cg_ NB337_319 ((cg_ NB337_319 (hHeld.2.1)))))), (cg_ NB337_319 ((cg_ NB337_319 ((cg_ NB337_319 (hHeld.2.2.1)))))), (cg_ NB329_319 ((cg_ NB329_319 ((cg_ NB329_319 (hHeld.2.2.2.1)))))), (cg_ NB329_319 ((cg_ NB329_319 ((cg_ NB329_319 (hHeld.2.2.2.2.1)))))), (cg_ NB329_319 ((cg_ NB329_319 ((cg_ NB329_319 (hHeld.2.2.2.2.2))))))⟩ (fun hHeld => ?_)
    clear hK K
    refine one_ (i := 4) (N := none) (bv_ 6 31) rfl rfl (by kernel_rfl) (by decide) (fun K hK => ?_)
    have hs56 : w52.cell? ⟨gb320, 0, none⟩ = some (.int .i64 0) := (blk_cell BK320.out 0).trans rfl
    have hfs56 := blk_frozen BK320.out 0
    have hns56_0 := NB318_320.out
    have hns56_1 := NB319_320.out
    have hns56_3 := NB329_320.out
    have hns56_4 := NB330_320.out
    have hns56_5 := NB337_320.out
    have hms56_0 := NB320_318.out
    have hms56_1 := NB320_319.out
    have hms56_3 := NB320_329.out
    have hms56_4 := NB320_330.out
    have hms56_5 := NB320_337.out
    have hs57 : w52.cell? ⟨gb320, 1, none⟩ = some (.int .i64 0) := (blk_cell BK320.out 1).trans rfl
    have hfs57 := blk_frozen BK320.out 1
    have hns57_0 := NB318_320.out
    have hns57_1 := NB319_320.out
    have hns57_3 := NB329_320.out
    have hns57_4 := NB330_320.out
    have hns57_5 := NB337_320.out
    have hms57_0 := NB320_318.out
    have hms57_1 := NB320_319.out
    have hms57_3 := NB320_329.out
    have hms57_4 := NB320_330.out
    have hms57_5 := NB320_337.out
    have hs58 : w52.cell? ⟨gb320, 2, none⟩ = some (.int .i64 0) := (blk_cell BK320.out 2).trans rfl
    have hfs58 := blk_frozen BK320.out 2
    have hns58_0 := NB318_320.out
    have hns58_1 := NB319_320.out
    have hns58_3 := NB329_320.out
    have hns58_4 := NB330_320.out
    have hns58_5 := NB337_320.out
    have hms58_0 := NB320_318.out
    have hms58_1 := NB320_319.out
    have hms58_3 := NB320_329.out
    have hms58_4 := NB320_330.out
    have hms58_5 := NB320_337.out
    refine skip_ (w1 := ?_) (by rfl) rfl ?_ ?_
    rotate_left
    ·go_simp
     rfl
    refine hK.out _ _ ⟨(cg_ NB337_320 ((cg_ NB337_320 ((cg_ NB337_320 (hHeld.1)))))), (cg_ NB337_320 ((cg_ NB337_320 ((cg_ NB337_320 (hHeld.2.1)))))), (cg_ NB337_320 ((cg_ NB337_320 ((cg_ NB337_320 (hHeld.2.2.1)))))), (cg_ NB329_320 ((cg_ NB329_320 ((cg_ NB329_320 (hHeld.2.2.2.1)))))), (cg_ NB329_320 ((cg_ NB329_320 ((cg_ NB329_320 (hHeld.2.2.2.2.1)))))), (cg_ NB329_320 ((cg_ NB329_320 ((cg_ NB329_320 (hHeld.2.2.2.2.2))))))⟩ (fun hHeld => ?_)
    clear hK K
    refine pure_ (i := 5) (N := some 8) (v := ?_) (a' := ?_) (bv_ 6 63) rfl rfl (by kernel_rfl) (fun _ _ _ h => h) (Or.inl ⟨by rfl, ?_⟩) ?_ ?_
    rotate_left
    ·intro w'
     go_simp
     with_reducible rfl
    rotate_left
    ·simp only [Act.put, lstS, lstZ, lstC, i64_w, i32_w]
     rfl
    refine done_ (by kernel_rfl) ?_
    try go_wp2
    refine bodyPost_ret (results_list (rs := [.cell 6 25, .cell 7 25, .tmp 8]) rfl (by simp) (.cell gb319 25 #[.int .i64 t333, .int .i64 t334, .int .i64 t335] (0, 0) _ rfl (bp_ BK319).out Try.underlying25 rfl (by kernel_rfl) (.cell gb320 25 #[.int .i64 t322, .int .i64 t323, .int .i64 t324] (0, 0) _ rfl (bp_ BK320).out Try.underlying25 rfl (by kernel_rfl) (.tmp .nil)))) rfl ?_
    exact ⟨es_, (bw_ HB).out⟩
   replace H := oc_ H
   obtain ⟨⟨t338, t339, t340, t341⟩, A59, H⟩ := H
   simp only [Option.some.injEq, Prod.mk.injEq] at H
   obtain ⟨rfl, rfl, rfl, rfl, rfl, rfl, rfl⟩ := H
   go_enter Try.func112, Try.ntmps112
   try go_wp2_with (first | ((refine gd_ 4 ?_); refine by_ 4 #[.int .i64 a1_0, .int .i64 a1_1, .int .i64 a1_2] 25 HB ?_; intro gb318 hg w60 BK318 hb GW318 HB_; replace HB := HB_; clear hb hg) | ((refine gd_ 6 ?_); refine by_ 6 #[.int .i64 0, .int .i64 0, .int .i64 0] 25 HB ?_; intro gb319 hg w61 BK319 hb GW319 HB_; have NB318_319 := bm_ BK318 hg; have NB319_318 := bn_ BK318 hg; replace BK318 := bb_ BK318 hb; replace HB := HB_; clear hb hg) | ((refine gd_ 7 ?_); refine by_ 7 #[.int .i64 0, .int .i64 0, .int .i64 0] 25 HB ?_; intro gb320 hg w62 BK320 hb GW320 HB_; have NB318_320 := bm_ BK318 hg; have NB320_318 := bn_ BK318 hg; have NB319_320 := bm_ BK319 hg; have NB320_319 := bn_ BK319 hg; replace BK318 := bb_ BK318 hb; replace BK319 := bb_ BK319 hb; replace HB := HB_; clear hb hg) | ((refine gc_ 119 ?_); refine ge_ 22 Try.func119 #[.int .i64 a0, .int .i64 a2] ?_; (with_reducible refine (impl_parentPlace.calls a0 a2 t321 _ A15.out).mono ?_); rintro e w' ⟨rfl, ⟨nd, rfl⟩⟩; refine ⟨_, rfl, ?_⟩; (try (rw [drewN_self w62]; generalize hq_ : World.drewN w62 _ = w62; replace BK318 := bq_ BK318 hq_; replace BK319 := bq_ BK319 hq_; replace BK320 := bq_ BK320 hq_; replace HB := hq_' HB hq_; clear hq_)); have hnb63 := NB318_319.out; have hnc63 := NB319_318.out; have hnb64 := NB318_320.out; have hnc64 := NB320_318.out; obtain ⟨hcz65_0, hcz65_1, hcz65_2, hfz65_0, hfz65_1, hfz65_2⟩ := ch3_ BK318) | ((refine gc_ 112 ?_); refine ge_ 27 Try.func112 #[.int .i64 a0, .agg #[.int .i64 a1_0, .int .i64 a1_1, .int .i64 a1_2], .int .i64 t321] ?_; (with_reducible refine (ih k (by omega) a0 a1_0 a1_1 a1_2 t321 t322 t323 t324 t325 t326 t327 true _ A16.out).mono ?_); rintro e w66 ⟨rfl, hb⟩; refine ⟨_, rfl, ?_⟩; replace BK318 := bb_ BK318 hb; replace BK319 := bb_ BK319 hb; replace BK320 := bb_ BK320 hb; replace HB := bt_ HB hb; (try clear hb)) | ((refine gd_ 10 ?_); refine by_ 10 #[.int .i64 0, .int .i64 0, .int .i64 0] 25 HB ?_; intro gb329 hg w67 BK329 hb GW329 HB_; have NB318_329 := bm_ BK318 hg; have NB329_318 := bn_ BK318 hg; have NB319_329 := bm_ BK319 hg; have NB329_319 := bn_ BK319 hg; have NB320_329 := bm_ BK320 hg; have NB329_320 := bn_ BK320 hg; replace BK318 := bb_ BK318 hb; replace BK319 := bb_ BK319 hb; replace BK320 := bb_ BK320 hb; replace HB := HB_; clear hb hg) | ((refine gd_ 11 ?_); refine by_ 11 #[.int .i64 0, .int .i64 0, .int .i64 0] 25 HB ?_; intro gb330 hg w68 BK330 hb GW330 HB_; have NB318_330 := bm_ BK318 hg; have NB330_318 := bn_ BK318 hg; have NB319_330 := bm_ BK319 hg; have NB330_319 := bn_ BK319 hg; have NB320_330 := bm_ BK320 hg; have NB330_320 := bn_ BK320 hg; have NB329_330 := bm_ BK329 hg; have NB330_329 := bn_ BK329 hg; replace BK318 := bb_ BK318 hb; replace BK319 := bb_ BK319 hb; replace BK320 := bb_ BK320 hb; replace BK329 := bb_ BK329 hb; replace HB := HB_; clear hb hg; have hnb69 := NB329_318.out; have hnc69 := NB318_329.out; have hnb70 := NB329_319.out; have hnc70 := NB319_329.out; have hnb71 := NB329_320.out; have hnc71 := NB320_329.out; have hnb72 := NB329_330.out; have hnc72 := NB330_329.out; obtain ⟨hcz73_0, hcz73_1, hcz73_2, hfz73_0, hfz73_1, hfz73_2⟩ := ch3_ BK329; have hnb74 := NB330_318.out; have hnc74 := NB318_330.out; have hnb75 := NB330_319.out; have hnc75 := NB319_330.out; have hnb76 := NB330_320.out; have hnc76 := NB320_330.out; obtain ⟨hcz77_0, hcz77_1, hcz77_2, hfz77_0, hfz77_1, hfz77_2⟩ := ch3_ BK330) | ((refine gc_ 117 ?_); refine ge_ 38 Try.func117 #[.int .i64 a0, .int .i64 t321] ?_; (with_reducible refine (impl_firstChild.calls a0 t321 t331 _ A18.out).mono ?_); rintro e w' ⟨rfl, ⟨nd, rfl⟩⟩; refine ⟨_, rfl, ?_⟩) | (go_at_call 116; (with_reducible refine (impl_toward.calls k a0 t322 t323 t324 t325 t326 t327 t332 _ A20.out).mono ?_); rintro e w78 ⟨rfl, hb⟩; replace BK318 := Aside0.mk (blk_below (g := gb318) (o := .cells #[.int .i64 a1_0, .int .i64 a1_1, .int .i64 a1_2] 25 (0, 0)) (bp_ BK318).out hb); replace BK319 := Aside0.mk (blk_below (g := gb319) (o := .cells #[.int .i64 0, .int .i64 0, .int .i64 0] 25 (0, 0)) (bp_ BK319).out hb); replace BK320 := Aside0.mk (blk_below (g := gb320) (o := .cells #[.int .i64 0, .int .i64 0, .int .i64 0] 25 (0, 0)) (bp_ BK320).out hb); replace BK329 := Aside0.mk (blk_below (g := gb329) (o := .cells #[.int .i64 t322, .int .i64 t323, .int .i64 t324] 25 (0, 0)) (bp_ BK329).out hb); replace BK330 := Aside0.mk (blk_below (g := gb330) (o := .cells #[.int .i64 t325, .int .i64 t326, .int .i64 t327] 25 (0, 0)) (bp_ BK330).out hb); replace HB := bt_ HB hb; (try clear hb); obtain ⟨hcz79_0, hcz79_1, hcz79_2, hfz79_0, hfz79_1, hfz79_2⟩ := ch3_ BK329) | ((refine gc_ 150 ?_); refine ge_ 56 Try.func150 #[.int .i64 a0, .agg #[.int .i64 t322, .int .i64 t323, .int .i64 t324], .int .i64 (wrap64 (a2 - t331))] ?_; (with_reducible refine (impl_neighbour.calls k a0 t322 t323 t324 (wrap64 (a2 - t331)) t338 t339 t340 t341 _ A59.out).mono ?_); rintro e w80 ⟨rfl, hb⟩; refine ⟨_, rfl, ?_⟩; replace BK318 := bb_ BK318 hb; replace BK319 := bb_ BK319 hb; replace BK320 := bb_ BK320 hb; replace BK329 := bb_ BK329 hb; replace BK330 := bb_ BK330 hb; replace HB := bt_ HB hb; (try clear hb)) | ((refine gd_ 14 ?_); refine by_ 14 #[.int .i64 0, .int .i64 0, .int .i64 0] 25 HB ?_; intro gb342 hg w81 BK342 hb GW342 HB_; have NB318_342 := bm_ BK318 hg; have NB342_318 := bn_ BK318 hg; have NB319_342 := bm_ BK319 hg; have NB342_319 := bn_ BK319 hg; have NB320_342 := bm_ BK320 hg; have NB342_320 := bn_ BK320 hg; have NB329_342 := bm_ BK329 hg; have NB342_329 := bn_ BK329 hg; have NB330_342 := bm_ BK330 hg; have NB342_330 := bn_ BK330 hg; replace BK318 := bb_ BK318 hb; replace BK319 := bb_ BK319 hb; replace BK320 := bb_ BK320 hb; replace BK329 := bb_ BK329 hb; replace BK330 := bb_ BK330 hb; replace HB := HB_; clear hb hg; have hnb82 := NB342_318.out; have hnc82 := NB318_342.out; have hnb83 := NB342_319.out; have hnc83 := NB319_342.out; have hnb84 := NB342_320.out; have hnc84 := NB320_342.out; have hnb85 := NB342_329.out; have hnc85 := NB329_342.out; have hnb86 := NB342_330.out; have hnc86 := NB330_342.out; obtain ⟨hcz87_0, hcz87_1, hcz87_2, hfz87_0, hfz87_1, hfz87_2⟩ := ch3_ BK342))
   have n0_ : Aside0 ((((w81.setCell ⟨gb342, 0, none⟩ (.int .i64 t338)).setCell ⟨gb342, 1, none⟩ (.int .i64 t339)).setCell ⟨gb342, 2, none⟩ (.int .i64 t340)).heap[gb318]? = some (.cells #[.int .i64 a1_0, .int .i64 a1_1, .int .i64 a1_2] 25 (0, 0))) := fl_ BK318 NB318_342
   have n1_ : Aside0 ((((w81.setCell ⟨gb342, 0, none⟩ (.int .i64 t338)).setCell ⟨gb342, 1, none⟩ (.int .i64 t339)).setCell ⟨gb342, 2, none⟩ (.int .i64 t340)).heap[gb319]? = some (.cells #[.int .i64 0, .int .i64 0, .int .i64 0] 25 (0, 0))) := fl_ BK319 NB319_342
   have n2_ : Aside0 ((((w81.setCell ⟨gb342, 0, none⟩ (.int .i64 t338)).setCell ⟨gb342, 1, none⟩ (.int .i64 t339)).setCell ⟨gb342, 2, none⟩ (.int .i64 t340)).heap[gb320]? = some (.cells #[.int .i64 0, .int .i64 0, .int .i64 0] 25 (0, 0))) := fl_ BK320 NB320_342
   have n3_ : Aside0 ((((w81.setCell ⟨gb342, 0, none⟩ (.int .i64 t338)).setCell ⟨gb342, 1, none⟩ (.int .i64 t339)).setCell ⟨gb342, 2, none⟩ (.int .i64 t340)).heap[gb329]? = some (.cells #[.int .i64 t322, .int .i64 t323, .int .i64 t324] 25 (0, 0))) := fl_ BK329 NB329_342
   have n4_ : Aside0 ((((w81.setCell ⟨gb342, 0, none⟩ (.int .i64 t338)).setCell ⟨gb342, 1, none⟩ (.int .i64 t339)).setCell ⟨gb342, 2, none⟩ (.int .i64 t340)).heap[gb330]? = some (.cells #[.int .i64 t325, .int .i64 t326, .int .i64 t327] 25 (0, 0))) := fl_ BK330 NB330_342
   have n5_ : Aside0 ((((w81.setCell ⟨gb342, 0, none⟩ (.int .i64 t338)).setCell ⟨gb342, 1, none⟩ (.int .i64 t339)).setCell ⟨gb342, 2, none⟩ (.int .i64 t340)).heap[gb342]? = some (.cells #[.int .i64 t338, .int .i64 t339, .int .i64 t340] 25 (0, 0))) := bp_ BK342
   have n6_ : Aside0 (Below w.heap.size w (((w81.setCell ⟨gb342, 0, none⟩ (.int .i64 t338)).setCell ⟨gb342, 1, none⟩ (.int .i64 t339)).setCell ⟨gb342, 2, none⟩ (.int .i64 t340))) := bw_ HB
   (try clear BK318)
   (try clear BK319)
   (try clear BK320)
   (try clear BK329)
   (try clear BK330)
   (try clear BK342)
   (try clear HB)
   generalize (((w81.setCell ⟨gb342, 0, none⟩ (.int .i64 t338)).setCell ⟨gb342, 1, none⟩ (.int .i64 t339)).setCell ⟨gb342, 2, none⟩ (.int .i64 t340)) = w88 at n0_ n1_ n2_ n3_ n4_ n5_ n6_ ⊢
   have BK318 := n0_
   have BK319 := n1_
   have BK320 := n2_
   have BK329 := n3_
   have BK330 := n4_
   have BK342 := n5_
   have HB := n6_
   clear n0_ n1_ n2_ n3_ n4_ n5_ n6_
   replace BK318 := bd_ BK318
   replace BK319 := bd_ BK319
   replace BK320 := bd_ BK320
   replace BK329 := bd_ BK329
   replace BK330 := bd_ BK330
   replace BK342 := bd_ BK342
   replace HB := be_ HB
   refine start_ (n := 6) (S := fun w' => w'.cell? ⟨gb342, 0, none⟩ = some (.int .i64 t338) ∧ w'.cell? ⟨gb342, 1, none⟩ = some (.int .i64 t339) ∧ w'.cell? ⟨gb342, 2, none⟩ = some (.int .i64 t340) ∧ w'.cell? ⟨gb329, 0, none⟩ = some (.int .i64 t322) ∧ w'.cell? ⟨gb329, 1, none⟩ = some (.int .i64 t323) ∧ w'.cell? ⟨gb329, 2, none⟩ = some (.int .i64 t324)) (ds := []) (bv_ 6 0) (by kernel_rfl) rfl rfl ⟨cz_ BK342 0, cz_ BK342 1, cz_ BK342 2, cz_ BK329 0, cz_ BK329 1, cz_ BK329 2⟩ (fun hHeld => ?_)
   generalize w88.drew = w89 at BK318 BK319 BK320 BK329 BK330 BK342 HB hHeld ⊢
   refine pure_ (i := 2) (N := some 61) (v := ?_) (a' := ?_) (bv_ 6 4) rfl rfl (by kernel_rfl) (fun _ _ _ h => h) (Or.inl ⟨by rfl, ?_⟩) ?_ ?_
   rotate_left
   ·intro w'
    go_simp
    with_reducible rfl
   rotate_left
   ·simp only [Act.put, lstS, lstZ, lstC, i64_w, i32_w]
    rfl
   refine take_ (i := 0) (N := some 59) (v := ?_) (a' := ?_) (bv_ 6 5) rfl rfl (by kernel_rfl) (fun _ _ _ h => h) (Or.inl ⟨by rfl, ?_⟩) hHeld ?_ ?_
   rotate_left
   ·rintro w' ⟨s0, s1, s2, s3, s4, s5⟩
    go_simp
    with_reducible rfl
   rotate_left
   ·simp only [Act.put, lstS, lstZ, lstC, i64_w, i32_w]
    rfl
   refine take_ (i := 1) (N := some 60) (v := ?_) (a' := ?_) (bv_ 6 7) rfl rfl (by kernel_rfl) (fun _ _ _ h => h) (Or.inl ⟨by rfl, ?_⟩) hHeld ?_ ?_
   rotate_left
   ·rintro w' ⟨s0, s1, s2, s3, s4, s5⟩
    go_simp
    with_reducible rfl
   rotate_left
   ·simp only [Act.put, lstS, lstZ, lstC, i64_w, i32_w]
    rfl
   refine one_ (i := 3) (N := none) (bv_ 6 15) rfl rfl (by kernel_rfl) (by decide) (fun K hK => ?_)
   have hs90 : w89.cell? ⟨gb319, 0, none⟩ = some (.int .i64 0) := (blk_cell BK319.out 0).trans rfl
   have hfs90 := blk_frozen BK319.out 0
   have hns90_0 := NB318_319.out
   have hns90_2 := NB320_319.out
   have hns90_3 := NB329_319.out
   have hns90_4 := NB330_319.out
   have hns90_5 := NB342_319.out
   have hms90_0 := NB319_318.out
   have hms90_2 := NB319_320.out
   have hms90_3 := NB319_329.out
   have hms90_4 := NB319_330.out
   have hms90_5 := NB319_342.out
   have hs91 : w89.cell? ⟨gb319, 1, none⟩ = some (.int .i64 0) := (blk_cell BK319.out 1).trans rfl
   have hfs91 := blk_frozen BK319.out 1
   have hns91_0 := NB318_319.out
   have hns91_2 := NB320_319.out
   have hns91_3 := NB329_319.out
   have hns91_4 := NB330_319.out
   have hns91_5 := NB342_319.out
   have hms91_0 := NB319_318.out
   have hms91_2 := NB319_320.out
   have hms91_3 := NB319_329.out
   have hms91_4 := NB319_330.out
   have hms91_5 := NB319_342.out
   have hs92 : w89.cell? ⟨gb319, 2, none⟩ = some (.int .i64 0) := (blk_cell BK319.out 2).trans rfl
   have hfs92 := blk_frozen BK319.out 2
   have hns92_0 := NB318_319.out
   have hns92_2 := NB320_319.out
   have hns92_3 := NB329_319.out
   have hns92_4 := NB330_319.out
   have hns92_5 := NB342_319.out
   have hms92_0 := NB319_318.out
   have hms92_2 := NB319_320.out
   have hms92_3 := NB319_329.out
   have hms92_4 := NB319_330.out
   have hms92_5 := NB319_342.out
   refine skip_ (w1 := ?_) (by rfl) rfl ?_ ?_
   rotate_left
   ·go_simp
    rfl
   refine hK.out _ _ ⟨(cg_ NB342_319 ((cg_ NB342_319 ((cg_ NB342_319 (hHeld.1)))))), (cg_ NB342_319 ((cg_ NB342_319 ((cg_ NB342_319 (hHeld.2.1)))))), (cg_ NB342_319 ((cg_ NB342_319 ((cg_ NB342_319 (hHeld.2.2.1)))))), (cg_ NB329_319 ((cg_ NB329_319 ((cg_ NB329_319 (hHeld.2.2.2.1)))))), (cg_ NB329_319 ((cg_ NB329_319 ((cg_ NB329_319 (hHeld.2.2.2.2.1)))))), (cg_ NB329_319 ((cg_ NB329_319 ((cg_ NB329_319 (hHeld.2.2.2.2.2))))))⟩ (fun hHeld => ?_)
   clear hK K
   refine one_ (i := 4) (N := none) (bv_ 6 31) rfl rfl (by kernel_rfl) (by decide) (fun K hK => ?_)
   have hs93 : w89.cell? ⟨gb320, 0, none⟩ = some (.int .i64 0) := (blk_cell BK320.out 0).trans rfl
   have hfs93 := blk_frozen BK320.out 0
   have hns93_0 := NB318_320.out
   have hns93_1 := NB319_320.out
   have hns93_3 := NB329_320.out
   have hns93_4 := NB330_320.out
   have hns93_5 := NB342_320.out
   have hms93_0 := NB320_318.out
   have hms93_1 := NB320_319.out
   have hms93_3 := NB320_329.out
   have hms93_4 := NB320_330.out
   have hms93_5 := NB320_342.out
   have hs94 : w89.cell? ⟨gb320, 1, none⟩ = some (.int .i64 0) := (blk_cell BK320.out 1).trans rfl
   have hfs94 := blk_frozen BK320.out 1
   have hns94_0 := NB318_320.out
   have hns94_1 := NB319_320.out
   have hns94_3 := NB329_320.out
   have hns94_4 := NB330_320.out
   have hns94_5 := NB342_320.out
   have hms94_0 := NB320_318.out
   have hms94_1 := NB320_319.out
   have hms94_3 := NB320_329.out
   have hms94_4 := NB320_330.out
   have hms94_5 := NB320_342.out
   have hs95 : w89.cell? ⟨gb320, 2, none⟩ = some (.int .i64 0) := (blk_cell BK320.out 2).trans rfl
   have hfs95 := blk_frozen BK320.out 2
   have hns95_0 := NB318_320.out
   have hns95_1 := NB319_320.out
   have hns95_3 := NB329_320.out
   have hns95_4 := NB330_320.out
   have hns95_5 := NB342_320.out
   have hms95_0 := NB320_318.out
   have hms95_1 := NB320_319.out
   have hms95_3 := NB320_329.out
   have hms95_4 := NB320_330.out
   have hms95_5 := NB320_342.out
   refine skip_ (w1 := ?_) (by rfl) rfl ?_ ?_
   rotate_left
   ·go_simp
    rfl
   refine hK.out _ _ ⟨(cg_ NB342_320 ((cg_ NB342_320 ((cg_ NB342_320 (hHeld.1)))))), (cg_ NB342_320 ((cg_ NB342_320 ((cg_ NB342_320 (hHeld.2.1)))))), (cg_ NB342_320 ((cg_ NB342_320 ((cg_ NB342_320 (hHeld.2.2.1)))))), (cg_ NB329_320 ((cg_ NB329_320 ((cg_ NB329_320 (hHeld.2.2.2.1)))))), (cg_ NB329_320 ((cg_ NB329_320 ((cg_ NB329_320 (hHeld.2.2.2.2.1)))))), (cg_ NB329_320 ((cg_ NB329_320 ((cg_ NB329_320 (hHeld.2.2.2.2.2))))))⟩ (fun hHeld => ?_)
   clear hK K
   refine pure_ (i := 5) (N := some 8) (v := ?_) (a' := ?_) (bv_ 6 63) rfl rfl (by kernel_rfl) (fun _ _ _ h => h) (Or.inl ⟨by rfl, ?_⟩) ?_ ?_
   rotate_left
   ·intro w'
    go_simp
    with_reducible rfl
   rotate_left
   ·simp only [Act.put, lstS, lstZ, lstC, i64_w, i32_w]
    rfl
   refine done_ (by kernel_rfl) ?_
   try go_wp2
   refine bodyPost_ret (results_list (rs := [.cell 6 25, .cell 7 25, .tmp 8]) rfl (by simp) (.cell gb319 25 #[.int .i64 t338, .int .i64 t339, .int .i64 t340] (0, 0) _ rfl (bp_ BK319).out Try.underlying25 rfl (by kernel_rfl) (.cell gb320 25 #[.int .i64 t322, .int .i64 t323, .int .i64 t324] (0, 0) _ rfl (bp_ BK320).out Try.underlying25 rfl (by kernel_rfl) (.tmp .nil)))) rfl ?_
   exact ⟨es_, (bw_ HB).out⟩
  replace H := oc_ H
  obtain ⟨⟨t343, t344, t345, t346⟩, A96, H⟩ := H
  simp only [Option.some.injEq, Prod.mk.injEq] at H
  obtain ⟨rfl, rfl, rfl, rfl, rfl, rfl, rfl⟩ := H
  go_enter Try.func112, Try.ntmps112
  try go_wp2_with (first | ((refine gd_ 4 ?_); refine by_ 4 #[.int .i64 a1_0, .int .i64 a1_1, .int .i64 a1_2] 25 HB ?_; intro gb318 hg w97 BK318 hb GW318 HB_; replace HB := HB_; clear hb hg) | ((refine gd_ 6 ?_); refine by_ 6 #[.int .i64 0, .int .i64 0, .int .i64 0] 25 HB ?_; intro gb319 hg w98 BK319 hb GW319 HB_; have NB318_319 := bm_ BK318 hg; have NB319_318 := bn_ BK318 hg; replace BK318 := bb_ BK318 hb; replace HB := HB_; clear hb hg) | ((refine gd_ 7 ?_); refine by_ 7 #[.int .i64 0, .int .i64 0, .int .i64 0] 25 HB ?_; intro gb320 hg w99 BK320 hb GW320 HB_; have NB318_320 := bm_ BK318 hg; have NB320_318 := bn_ BK318 hg; have NB319_320 := bm_ BK319 hg; have NB320_319 := bn_ BK319 hg; replace BK318 := bb_ BK318 hb; replace BK319 := bb_ BK319 hb; replace HB := HB_; clear hb hg) | ((refine gc_ 119 ?_); refine ge_ 22 Try.func119 #[.int .i64 a0, .int .i64 a2] ?_; (with_reducible refine (impl_parentPlace.calls a0 a2 t321 _ A15.out).mono ?_); rintro e w' ⟨rfl, ⟨nd, rfl⟩⟩; refine ⟨_, rfl, ?_⟩; (try (rw [drewN_self w99]; generalize hq_ : World.drewN w99 _ = w99; replace BK318 := bq_ BK318 hq_; replace BK319 := bq_ BK319 hq_; replace BK320 := bq_ BK320 hq_; replace HB := hq_' HB hq_; clear hq_)); have hnb100 := NB318_319.out; have hnc100 := NB319_318.out; have hnb101 := NB318_320.out; have hnc101 := NB320_318.out; obtain ⟨hcz102_0, hcz102_1, hcz102_2, hfz102_0, hfz102_1, hfz102_2⟩ := ch3_ BK318) | ((refine gc_ 112 ?_); refine ge_ 27 Try.func112 #[.int .i64 a0, .agg #[.int .i64 a1_0, .int .i64 a1_1, .int .i64 a1_2], .int .i64 t321] ?_; (with_reducible refine (ih k (by omega) a0 a1_0 a1_1 a1_2 t321 t322 t323 t324 t325 t326 t327 true _ A16.out).mono ?_); rintro e w103 ⟨rfl, hb⟩; refine ⟨_, rfl, ?_⟩; replace BK318 := bb_ BK318 hb; replace BK319 := bb_ BK319 hb; replace BK320 := bb_ BK320 hb; replace HB := bt_ HB hb; (try clear hb)) | ((refine gd_ 10 ?_); refine by_ 10 #[.int .i64 0, .int .i64 0, .int .i64 0] 25 HB ?_; intro gb329 hg w104 BK329 hb GW329 HB_; have NB318_329 := bm_ BK318 hg; have NB329_318 := bn_ BK318 hg; have NB319_329 := bm_ BK319 hg; have NB329_319 := bn_ BK319 hg; have NB320_329 := bm_ BK320 hg; have NB329_320 := bn_ BK320 hg; replace BK318 := bb_ BK318 hb; replace BK319 := bb_ BK319 hb; replace BK320 := bb_ BK320 hb; replace HB := HB_; clear hb hg) | ((refine gd_ 11 ?_); refine by_ 11 #[.int .i64 0, .int .i64 0, .int .i64 0] 25 HB ?_; intro gb330 hg w105 BK330 hb GW330 HB_; have NB318_330 := bm_ BK318 hg; have NB330_318 := bn_ BK318 hg; have NB319_330 := bm_ BK319 hg; have NB330_319 := bn_ BK319 hg; have NB320_330 := bm_ BK320 hg; have NB330_320 := bn_ BK320 hg; have NB329_330 := bm_ BK329 hg; have NB330_329 := bn_ BK329 hg; replace BK318 := bb_ BK318 hb; replace BK319 := bb_ BK319 hb; replace BK320 := bb_ BK320 hb; replace BK329 := bb_ BK329 hb; replace HB := HB_; clear hb hg; have hnb106 := NB329_318.out; have hnc106 := NB318_329.out; have hnb107 := NB329_319.out; have hnc107 := NB319_329.out; have hnb108 := NB329_320.out; have hnc108 := NB320_329.out; have hnb109 := NB329_330.out; have hnc109 := NB330_329.out; obtain ⟨hcz110_0, hcz110_1, hcz110_2, hfz110_0, hfz110_1, hfz110_2⟩ := ch3_ BK329; have hnb111 := NB330_318.out; have hnc111 := NB318_330.out; have hnb112 := NB330_319.out; have hnc112 := NB319_330.out; have hnb113 := NB330_320.out; have hnc113 := NB320_330.out; obtain ⟨hcz114_0, hcz114_1, hcz114_2, hfz114_0, hfz114_1, hfz114_2⟩ := ch3_ BK330) | ((refine gc_ 117 ?_); refine ge_ 38 Try.func117 #[.int .i64 a0, .int .i64 t321] ?_; (with_reducible refine (impl_firstChild.calls a0 t321 t331 _ A18.out).mono ?_); rintro e w' ⟨rfl, ⟨nd, rfl⟩⟩; refine ⟨_, rfl, ?_⟩) | ((refine gc_ 150 ?_); refine ge_ 56 Try.func150 #[.int .i64 a0, .agg #[.int .i64 t322, .int .i64 t323, .int .i64 t324], .int .i64 (wrap64 (a2 - t331))] ?_; (with_reducible refine (impl_neighbour.calls k a0 t322 t323 t324 (wrap64 (a2 - t331)) t343 t344 t345 t346 _ A96.out).mono ?_); rintro e w115 ⟨rfl, hb⟩; refine ⟨_, rfl, ?_⟩; replace BK318 := Aside0.mk (blk_below (g := gb318) (o := .cells #[.int .i64 a1_0, .int .i64 a1_1, .int .i64 a1_2] 25 (0, 0)) (bp_ BK318).out hb); replace BK319 := Aside0.mk (blk_below (g := gb319) (o := .cells #[.int .i64 0, .int .i64 0, .int .i64 0] 25 (0, 0)) (bp_ BK319).out hb); replace BK320 := Aside0.mk (blk_below (g := gb320) (o := .cells #[.int .i64 0, .int .i64 0, .int .i64 0] 25 (0, 0)) (bp_ BK320).out hb); replace BK329 := Aside0.mk (blk_below (g := gb329) (o := .cells #[.int .i64 t322, .int .i64 t323, .int .i64 t324] 25 (0, 0)) (bp_ BK329).out hb); replace BK330 := Aside0.mk (blk_below (g := gb330) (o := .cells #[.int .i64 t325, .int .i64 t326, .int .i64 t327] 25 (0, 0)) (bp_ BK330).out hb); replace HB := bt_ HB hb; (try clear hb)) | ((refine gd_ 14 ?_); refine by_ 14 #[.int .i64 0, .int .i64 0, .int .i64 0] 25 HB ?_; intro gb347 hg w116 BK347 hb GW347 HB_; have NB318_347 := bm_ BK318 hg; have NB347_318 := bn_ BK318 hg; have NB319_347 := bm_ BK319 hg; have NB347_319 := bn_ BK319 hg; have NB320_347 := bm_ BK320 hg; have NB347_320 := bn_ BK320 hg; have NB329_347 := bm_ BK329 hg; have NB347_329 := bn_ BK329 hg; have NB330_347 := bm_ BK330 hg; have NB347_330 := bn_ BK330 hg; replace BK318 := bb_ BK318 hb; replace BK319 := bb_ BK319 hb; replace BK320 := bb_ BK320 hb; replace BK329 := bb_ BK329 hb; replace BK330 := bb_ BK330 hb; replace HB := HB_; clear hb hg; have hnb117 := NB347_318.out; have hnc117 := NB318_347.out; have hnb118 := NB347_319.out; have hnc118 := NB319_347.out; have hnb119 := NB347_320.out; have hnc119 := NB320_347.out; have hnb120 := NB347_329.out; have hnc120 := NB329_347.out; have hnb121 := NB347_330.out; have hnc121 := NB330_347.out; obtain ⟨hcz122_0, hcz122_1, hcz122_2, hfz122_0, hfz122_1, hfz122_2⟩ := ch3_ BK347))
  have n0_ : Aside0 ((((w116.setCell ⟨gb347, 0, none⟩ (.int .i64 t343)).setCell ⟨gb347, 1, none⟩ (.int .i64 t344)).setCell ⟨gb347, 2, none⟩ (.int .i64 t345)).heap[gb318]? = some (.cells #[.int .i64 a1_0, .int .i64 a1_1, .int .i64 a1_2] 25 (0, 0))) := fl_ BK318 NB318_347
  have n1_ : Aside0 ((((w116.setCell ⟨gb347, 0, none⟩ (.int .i64 t343)).setCell ⟨gb347, 1, none⟩ (.int .i64 t344)).setCell ⟨gb347, 2, none⟩ (.int .i64 t345)).heap[gb319]? = some (.cells #[.int .i64 0, .int .i64 0, .int .i64 0] 25 (0, 0))) := fl_ BK319 NB319_347
  have n2_ : Aside0 ((((w116.setCell ⟨gb347, 0, none⟩ (.int .i64 t343)).setCell ⟨gb347, 1, none⟩ (.int .i64 t344)).setCell ⟨gb347, 2, none⟩ (.int .i64 t345)).heap[gb320]? = some (.cells #[.int .i64 0, .int .i64 0, .int .i64 0] 25 (0, 0))) := fl_ BK320 NB320_347
  have n3_ : Aside0 ((((w116.setCell ⟨gb347, 0, none⟩ (.int .i64 t343)).setCell ⟨gb347, 1, none⟩ (.int .i64 t344)).setCell ⟨gb347, 2, none⟩ (.int .i64 t345)).heap[gb329]? = some (.cells #[.int .i64 t322, .int .i64 t323, .int .i64 t324] 25 (0, 0))) := fl_ BK329 NB329_347
  have n4_ : Aside0 ((((w116.setCell ⟨gb347, 0, none⟩ (.int .i64 t343)).setCell ⟨gb347, 1, none⟩ (.int .i64 t344)).setCell ⟨gb347, 2, none⟩ (.int .i64 t345)).heap[gb330]? = some (.cells #[.int .i64 t325, .int .i64 t326, .int .i64 t327] 25 (0, 0))) := fl_ BK330 NB330_347
  have n5_ : Aside0 ((((w116.setCell ⟨gb347, 0, none⟩ (.int .i64 t343)).setCell ⟨gb347, 1, none⟩ (.int .i64 t344)).setCell ⟨gb347, 2, none⟩ (.int .i64 t345)).heap[gb347]? = some (.cells #[.int .i64 t343, .int .i64 t344, .int .i64 t345] 25 (0, 0))) := bp_ BK347
  have n6_ : Aside0 (Below w.heap.size w (((w116.setCell ⟨gb347, 0, none⟩ (.int .i64 t343)).setCell ⟨gb347, 1, none⟩ (.int .i64 t344)).setCell ⟨gb347, 2, none⟩ (.int .i64 t345))) := bw_ HB
  (try clear BK318)
  (try clear BK319)
  (try clear BK320)
  (try clear BK329)
  (try clear BK330)
  (try clear BK347)
  (try clear HB)
  generalize (((w116.setCell ⟨gb347, 0, none⟩ (.int .i64 t343)).setCell ⟨gb347, 1, none⟩ (.int .i64 t344)).setCell ⟨gb347, 2, none⟩ (.int .i64 t345)) = w123 at n0_ n1_ n2_ n3_ n4_ n5_ n6_ ⊢
  have BK318 := n0_
  have BK319 := n1_
  have BK320 := n2_
  have BK329 := n3_
  have BK330 := n4_
  have BK347 := n5_
  have HB := n6_
  clear n0_ n1_ n2_ n3_ n4_ n5_ n6_
  replace BK318 := bd_ BK318
  replace BK319 := bd_ BK319
  replace BK320 := bd_ BK320
  replace BK329 := bd_ BK329
  replace BK330 := bd_ BK330
  replace BK347 := bd_ BK347
  replace HB := be_ HB
  refine start_ (n := 6) (S := fun w' => w'.cell? ⟨gb347, 0, none⟩ = some (.int .i64 t343) ∧ w'.cell? ⟨gb347, 1, none⟩ = some (.int .i64 t344) ∧ w'.cell? ⟨gb347, 2, none⟩ = some (.int .i64 t345) ∧ w'.cell? ⟨gb329, 0, none⟩ = some (.int .i64 t322) ∧ w'.cell? ⟨gb329, 1, none⟩ = some (.int .i64 t323) ∧ w'.cell? ⟨gb329, 2, none⟩ = some (.int .i64 t324)) (ds := []) (bv_ 6 0) (by kernel_rfl) rfl rfl ⟨cz_ BK347 0, cz_ BK347 1, cz_ BK347 2, cz_ BK329 0, cz_ BK329 1, cz_ BK329 2⟩ (fun hHeld => ?_)
  generalize w123.drew = w124 at BK318 BK319 BK320 BK329 BK330 BK347 HB hHeld ⊢
  refine pure_ (i := 2) (N := some 61) (v := ?_) (a' := ?_) (bv_ 6 4) rfl rfl (by kernel_rfl) (fun _ _ _ h => h) (Or.inl ⟨by rfl, ?_⟩) ?_ ?_
  rotate_left
  ·intro w'
   go_simp
   with_reducible rfl
  rotate_left
  ·simp only [Act.put, lstS, lstZ, lstC, i64_w, i32_w]
   rfl
  refine take_ (i := 0) (N := some 59) (v := ?_) (a' := ?_) (bv_ 6 5) rfl rfl (by kernel_rfl) (fun _ _ _ h => h) (Or.inl ⟨by rfl, ?_⟩) hHeld ?_ ?_
  rotate_left
  ·rintro w' ⟨s0, s1, s2, s3, s4, s5⟩
   go_simp
   with_reducible rfl
  rotate_left
  ·simp only [Act.put, lstS, lstZ, lstC, i64_w, i32_w]
   rfl
  refine take_ (i := 1) (N := some 60) (v := ?_) (a' := ?_) (bv_ 6 7) rfl rfl (by kernel_rfl) (fun _ _ _ h => h) (Or.inl ⟨by rfl, ?_⟩) hHeld ?_ ?_
  rotate_left
  ·rintro w' ⟨s0, s1, s2, s3, s4, s5⟩
   go_simp
   with_reducible rfl
  rotate_left
  ·simp only [Act.put, lstS, lstZ, lstC, i64_w, i32_w]
   rfl
  refine one_ (i := 3) (N := none) (bv_ 6 15) rfl rfl (by kernel_rfl) (by decide) (fun K hK => ?_)
  have hs125 : w124.cell? ⟨gb319, 0, none⟩ = some (.int .i64 0) := (blk_cell BK319.out 0).trans rfl
  have hfs125 := blk_frozen BK319.out 0
  have hns125_0 := NB318_319.out
  have hns125_2 := NB320_319.out
  have hns125_3 := NB329_319.out
  have hns125_4 := NB330_319.out
  have hns125_5 := NB347_319.out
  have hms125_0 := NB319_318.out
  have hms125_2 := NB319_320.out
  have hms125_3 := NB319_329.out
  have hms125_4 := NB319_330.out
  have hms125_5 := NB319_347.out
  have hs126 : w124.cell? ⟨gb319, 1, none⟩ = some (.int .i64 0) := (blk_cell BK319.out 1).trans rfl
  have hfs126 := blk_frozen BK319.out 1
  have hns126_0 := NB318_319.out
  have hns126_2 := NB320_319.out
  have hns126_3 := NB329_319.out
  have hns126_4 := NB330_319.out
  have hns126_5 := NB347_319.out
  have hms126_0 := NB319_318.out
  have hms126_2 := NB319_320.out
  have hms126_3 := NB319_329.out
  have hms126_4 := NB319_330.out
  have hms126_5 := NB319_347.out
  have hs127 : w124.cell? ⟨gb319, 2, none⟩ = some (.int .i64 0) := (blk_cell BK319.out 2).trans rfl
  have hfs127 := blk_frozen BK319.out 2
  have hns127_0 := NB318_319.out
  have hns127_2 := NB320_319.out
  have hns127_3 := NB329_319.out
  have hns127_4 := NB330_319.out
  have hns127_5 := NB347_319.out
  have hms127_0 := NB319_318.out
  have hms127_2 := NB319_320.out
  have hms127_3 := NB319_329.out
  have hms127_4 := NB319_330.out
  have hms127_5 := NB319_347.out
  refine skip_ (w1 := ?_) (by rfl) rfl ?_ ?_
  rotate_left
  ·go_simp
   rfl
  refine hK.out _ _ ⟨(cg_ NB347_319 ((cg_ NB347_319 ((cg_ NB347_319 (hHeld.1)))))), (cg_ NB347_319 ((cg_ NB347_319 ((cg_ NB347_319 (hHeld.2.1)))))), (cg_ NB347_319 ((cg_ NB347_319 ((cg_ NB347_319 (hHeld.2.2.1)))))), (cg_ NB329_319 ((cg_ NB329_319 ((cg_ NB329_319 (hHeld.2.2.2.1)))))), (cg_ NB329_319 ((cg_ NB329_319 ((cg_ NB329_319 (hHeld.2.2.2.2.1)))))), (cg_ NB329_319 ((cg_ NB329_319 ((cg_ NB329_319 (hHeld.2.2.2.2.2))))))⟩ (fun hHeld => ?_)
  clear hK K
  refine one_ (i := 4) (N := none) (bv_ 6 31) rfl rfl (by kernel_rfl) (by decide) (fun K hK => ?_)
  have hs128 : w124.cell? ⟨gb320, 0, none⟩ = some (.int .i64 0) := (blk_cell BK320.out 0).trans rfl
  have hfs128 := blk_frozen BK320.out 0
  have hns128_0 := NB318_320.out
  have hns128_1 := NB319_320.out
  have hns128_3 := NB329_320.out
  have hns128_4 := NB330_320.out
  have hns128_5 := NB347_320.out
  have hms128_0 := NB320_318.out
  have hms128_1 := NB320_319.out
  have hms128_3 := NB320_329.out
  have hms128_4 := NB320_330.out
  have hms128_5 := NB320_347.out
  have hs129 : w124.cell? ⟨gb320, 1, none⟩ = some (.int .i64 0) := (blk_cell BK320.out 1).trans rfl
  have hfs129 := blk_frozen BK320.out 1
  have hns129_0 := NB318_320.out
  have hns129_1 := NB319_320.out
  have hns129_3 := NB329_320.out
  have hns129_4 := NB330_320.out
  have hns129_5 := NB347_320.out
  have hms129_0 := NB320_318.out
  have hms129_1 := NB320_319.out
  have hms129_3 := NB320_329.out
  have hms129_4 := NB320_330.out
  have hms129_5 := NB320_347.out
  have hs130 : w124.cell? ⟨gb320, 2, none⟩ = some (.int .i64 0) := (blk_cell BK320.out 2).trans rfl
  have hfs130 := blk_frozen BK320.out 2
  have hns130_0 := NB318_320.out
  have hns130_1 := NB319_320.out
  have hns130_3 := NB329_320.out
  have hns130_4 := NB330_320.out
  have hns130_5 := NB347_320.out
  have hms130_0 := NB320_318.out
  have hms130_1 := NB320_319.out
  have hms130_3 := NB320_329.out
  have hms130_4 := NB320_330.out
  have hms130_5 := NB320_347.out
  refine skip_ (w1 := ?_) (by rfl) rfl ?_ ?_
  rotate_left
  ·go_simp
   rfl
  refine hK.out _ _ ⟨(cg_ NB347_320 ((cg_ NB347_320 ((cg_ NB347_320 (hHeld.1)))))), (cg_ NB347_320 ((cg_ NB347_320 ((cg_ NB347_320 (hHeld.2.1)))))), (cg_ NB347_320 ((cg_ NB347_320 ((cg_ NB347_320 (hHeld.2.2.1)))))), (cg_ NB329_320 ((cg_ NB329_320 ((cg_ NB329_320 (hHeld.2.2.2.1)))))), (cg_ NB329_320 ((cg_ NB329_320 ((cg_ NB329_320 (hHeld.2.2.2.2.1)))))), (cg_ NB329_320 ((cg_ NB329_320 ((cg_ NB329_320 (hHeld.2.2.2.2.2))))))⟩ (fun hHeld => ?_)
  clear hK K
  refine pure_ (i := 5) (N := some 8) (v := ?_) (a' := ?_) (bv_ 6 63) rfl rfl (by kernel_rfl) (fun _ _ _ h => h) (Or.inl ⟨by rfl, ?_⟩) ?_ ?_
  rotate_left
  ·intro w'
   go_simp
   with_reducible rfl
  rotate_left
  ·simp only [Act.put, lstS, lstZ, lstC, i64_w, i32_w]
   rfl
  refine done_ (by kernel_rfl) ?_
  try go_wp2
  refine bodyPost_ret (results_list (rs := [.cell 6 25, .cell 7 25, .tmp 8]) rfl (by simp) (.cell gb319 25 #[.int .i64 t343, .int .i64 t344, .int .i64 t345] (0, 0) _ rfl (bp_ BK319).out Try.underlying25 rfl (by kernel_rfl) (.cell gb320 25 #[.int .i64 t322, .int .i64 t323, .int .i64 t324] (0, 0) _ rfl (bp_ BK320).out Try.underlying25 rfl (by kernel_rfl) (.tmp .nil)))) rfl ?_
  exact ⟨es_, (bw_ HB).out⟩
 simp only [Option.some.injEq, Prod.mk.injEq] at H
 obtain ⟨rfl, rfl, rfl, rfl, rfl, rfl, rfl⟩ := H
 go_enter Try.func112, Try.ntmps112
 go_wp2_with (first | ((refine gd_ 4 ?_); refine by_ 4 #[.int .i64 a1_0, .int .i64 a1_1, .int .i64 a1_2] 25 HB ?_; intro gb318 hg w131 BK318 hb GW318 HB_; replace HB := HB_; clear hb hg) | ((refine gd_ 6 ?_); refine by_ 6 #[.int .i64 0, .int .i64 0, .int .i64 0] 25 HB ?_; intro gb319 hg w132 BK319 hb GW319 HB_; have NB318_319 := bm_ BK318 hg; have NB319_318 := bn_ BK318 hg; replace BK318 := bb_ BK318 hb; replace HB := HB_; clear hb hg) | ((refine gd_ 7 ?_); refine by_ 7 #[.int .i64 0, .int .i64 0, .int .i64 0] 25 HB ?_; intro gb320 hg w133 BK320 hb GW320 HB_; have NB318_320 := bm_ BK318 hg; have NB320_318 := bn_ BK318 hg; have NB319_320 := bm_ BK319 hg; have NB320_319 := bn_ BK319 hg; replace BK318 := bb_ BK318 hb; replace BK319 := bb_ BK319 hb; replace HB := HB_; clear hb hg) | ((refine gc_ 119 ?_); refine ge_ 22 Try.func119 #[.int .i64 a0, .int .i64 a2] ?_; (with_reducible refine (impl_parentPlace.calls a0 a2 t321 _ A15.out).mono ?_); rintro e w' ⟨rfl, ⟨nd, rfl⟩⟩; refine ⟨_, rfl, ?_⟩; (try (rw [drewN_self w133]; generalize hq_ : World.drewN w133 _ = w133; replace BK318 := bq_ BK318 hq_; replace BK319 := bq_ BK319 hq_; replace BK320 := bq_ BK320 hq_; replace HB := hq_' HB hq_; clear hq_)); have hnb134 := NB318_319.out; have hnc134 := NB319_318.out; have hnb135 := NB318_320.out; have hnc135 := NB320_318.out; obtain ⟨hcz136_0, hcz136_1, hcz136_2, hfz136_0, hfz136_1, hfz136_2⟩ := ch3_ BK318) | ((refine gc_ 112 ?_); refine ge_ 27 Try.func112 #[.int .i64 a0, .agg #[.int .i64 a1_0, .int .i64 a1_1, .int .i64 a1_2], .int .i64 t321] ?_; (with_reducible refine (ih k (by omega) a0 a1_0 a1_1 a1_2 t321 t322 t323 t324 t325 t326 t327 false _ A16.out).mono ?_); rintro e w137 ⟨rfl, hb⟩; refine ⟨_, rfl, ?_⟩; replace BK318 := bb_ BK318 hb; replace BK319 := bb_ BK319 hb; replace BK320 := bb_ BK320 hb; replace HB := bt_ HB hb; (try clear hb)) | ((refine gd_ 10 ?_); refine by_ 10 #[.int .i64 0, .int .i64 0, .int .i64 0] 25 HB ?_; intro gb329 hg w138 BK329 hb GW329 HB_; have NB318_329 := bm_ BK318 hg; have NB329_318 := bn_ BK318 hg; have NB319_329 := bm_ BK319 hg; have NB329_319 := bn_ BK319 hg; have NB320_329 := bm_ BK320 hg; have NB329_320 := bn_ BK320 hg; replace BK318 := bb_ BK318 hb; replace BK319 := bb_ BK319 hb; replace BK320 := bb_ BK320 hb; replace HB := HB_; clear hb hg) | ((refine gd_ 11 ?_); refine by_ 11 #[.int .i64 0, .int .i64 0, .int .i64 0] 25 HB ?_; intro gb330 hg w139 BK330 hb GW330 HB_; have NB318_330 := bm_ BK318 hg; have NB330_318 := bn_ BK318 hg; have NB319_330 := bm_ BK319 hg; have NB330_319 := bn_ BK319 hg; have NB320_330 := bm_ BK320 hg; have NB330_320 := bn_ BK320 hg; have NB329_330 := bm_ BK329 hg; have NB330_329 := bn_ BK329 hg; replace BK318 := bb_ BK318 hb; replace BK319 := bb_ BK319 hb; replace BK320 := bb_ BK320 hb; replace BK329 := bb_ BK329 hb; replace HB := HB_; clear hb hg; have hnb140 := NB329_318.out; have hnc140 := NB318_329.out; have hnb141 := NB329_319.out; have hnc141 := NB319_329.out; have hnb142 := NB329_320.out; have hnc142 := NB320_329.out; have hnb143 := NB329_330.out; have hnc143 := NB330_329.out; obtain ⟨hcz144_0, hcz144_1, hcz144_2, hfz144_0, hfz144_1, hfz144_2⟩ := ch3_ BK329; have hnb145 := NB330_318.out; have hnc145 := NB318_330.out; have hnb146 := NB330_319.out; have hnc146 := NB319_330.out; have hnb147 := NB330_320.out; have hnc147 := NB320_330.out; obtain ⟨hcz148_0, hcz148_1, hcz148_2, hfz148_0, hfz148_1, hfz148_2⟩ := ch3_ BK330; have hnb149 := NB319_320.out; have hnc149 := NB320_319.out; obtain ⟨hcz150_0, hcz150_1, hcz150_2, hfz150_0, hfz150_1, hfz150_2⟩ := ch3_ BK319; obtain ⟨hcz151_0, hcz151_1, hcz151_2, hfz151_0, hfz151_1, hfz151_2⟩ := ch3_ BK320))
 refine bodyPost_ret (results_list (rs := [.cell 6 25, .cell 7 25, .tmp 8]) rfl (by simp) (.cell gb319 25 #[.int .i64 0, .int .i64 0, .int .i64 0] (0, 0) _ rfl (bp_ BK319).out Try.underlying25 rfl (by kernel_rfl) (.cell gb320 25 #[.int .i64 0, .int .i64 0, .int .i64 0] (0, 0) _ rfl (bp_ BK320).out Try.underlying25 rfl (by kernel_rfl) (.tmp .nil)))) rfl ?_
 exact ⟨es_, (bw_ HB).out⟩
end Go.Proofs.Ytgoeelhiffbjlaa.QP
