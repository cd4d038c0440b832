import Derived.Test.YtgoeelhiffbjlaaQBx18
namespace Go.Proofs.Ytgoeelhiffbjlaa.QB
set_option maxHeartbeats 8000000
set_option maxRecDepth 100000
open Go.RowKit YtgoeelhiffbjlaaW.PrintWords YtgoeelhiffbjlaaW.PrintLast YtgoeelhiffbjlaaW.PrintMore
attribute [local go_sem] isSome_setCell max2_int min2_int max_two min_two max_three min_three max_four min_four
set_option linter.unusedVariables false
set_option linter.unusedSimpArgs false
def spec_l01EndOf.f (k : Nat) (a0 a1 : Int) : Option (Int × Int × Bool) := if a1 = 0 then (some (1, 0, true)) else ((spec_l01Gcd.f k a0 a1).bind fun t193 => (if a1 < 0 then (if (wrap64 (-t193)) = 0 then (none) else (if (wrap64 (Int.tdiv a1 (wrap64 (-t193)))) ≤ 1000000 then (some (wrap64 (Int.tdiv a0 (wrap64 (-t193))), wrap64 (Int.tdiv a1 (wrap64 (-t193))), decide ((mx (wrap64 (Int.tdiv a0 (wrap64 (-t193)))) (wrap64 (-(wrap64 (Int.tdiv a0 (wrap64 (-t193))))))) ≤ 1000000))) else (some (wrap64 (Int.tdiv a0 (wrap64 (-t193))), wrap64 (Int.tdiv a1 (wrap64 (-t193))), false)))) else (if t193 = 0 then (none) else (if (wrap64 (Int.tdiv a1 t193)) ≤ 1000000 then (some (wrap64 (Int.tdiv a0 t193), wrap64 (Int.tdiv a1 t193), decide ((mx (wrap64 (Int.tdiv a0 t193)) (wrap64 (-(wrap64 (Int.tdiv a0 t193))))) ≤ 1000000))) else (some (wrap64 (Int.tdiv a0 t193), wrap64 (Int.tdiv a1 t193), false))))))
def spec_l01EndOf.T6 : Bool × List (List Nat × List Nat) := (true, [([], []), ([], []), ([0, 1], [0, 1]), ([], []), ([], []), ([3, 4], [3, 4]), ([2, 5], [2, 5]), ([], []), ([7, 6, 0, 1, 2, 3, 4, 5, 6, 7], [6, 7])])
def spec_l01EndOf.B6 : List Nat := [0, 0, 3, 0, 0, 24, 63, 0, 255]
theorem spec_l01EndOf.tab6 : rtab .any (opsOf Try.f174 6) = spec_l01EndOf.T6 := by kernel_rfl
theorem spec_l01EndOf.bits6 : waitsOk spec_l01EndOf.T6.2 spec_l01EndOf.B6 = true := by kernel_rfl
def spec_l01EndOf.T7 : Bool × List (List Nat × List Nat) := (true, [([], []), ([], []), ([1], [1]), ([2], [2]), ([3], [3]), ([4], [4]), ([5, 4], [4, 5]), ([4], [4]), ([7, 4], [4, 7]), ([8, 4], [4, 8]), ([6, 9, 4], [4, 6, 9]), ([10, 4], [4, 10]), ([4, 11], [4, 11]), ([0, 4, 0], [0]), ([12, 13, 0, 1, 2, 3, 4, 5, 6, 7, 8, 9, 10, 11, 12, 13], [12])])
def spec_l01EndOf.B7 : List Nat := [0, 0, 2, 6, 14, 30, 62, 30, 158, 414, 1022, 2046, 4094, 31, 16383]
theorem spec_l01EndOf.tab7 : rtab .any (opsOf Try.f174 7) = spec_l01EndOf.T7 := by kernel_rfl
theorem spec_l01EndOf.bits7 : waitsOk spec_l01EndOf.T7.2 spec_l01EndOf.B7 = true := by kernel_rfl
theorem spec_l01EndOf.calls (k : Nat) (a0 a1 r1 r2 : Int) (r3 : Bool) (w : World) (h : spec_l01EndOf.f k a0 a1 = some (r1, r2, r3)) :
  Calls Try.prog 174 #[.int .i64 a0, .int .i64 a1] w fun e w' => e = .returned (.tuple #[.agg #[.int .i64 r1, .int .i64 r2], .bool r3]) ∧ Below w.heap.size w w' := by
 have hu74 := Try.underlying74
 have HB := Aside0.mk (Below.refl w.heap.size w)
 unfold spec_l01EndOf.f at h
 have H := h
 clear h
 replace H := ie_ H
 rcases H with ⟨c3b0, c3b1, H⟩ | ⟨c3, c3b0, c3b1, H⟩
 ·simp only [Option.some.injEq, Prod.mk.injEq] at H
  obtain ⟨rfl, rfl, rfl⟩ := H
  go_enter Try.func174, Try.ntmps174
  go_wp2_with (first | ((refine gd_ 4 ?_); (try (refine gate_guard (by rfl) ?_; dsimp only)); refine by_ 4 #[.int .i64 0, .int .i64 0] 74 HB ?_; intro gb192 hg w4 BK192 hb GW192 HB_; replace HB := HB_; clear hb hg; obtain ⟨hcz5_0, hcz5_1, hfz5_0, hfz5_1⟩ := ch2_ BK192))
  refine bodyPost_ret (results_ct rfl _ _ gb192 74 #[.int .i64 1, .int .i64 0] (0, 0) _ rfl (bp_ BK192).out Try.underlying74 rfl (by kernel_rfl)) rfl ?_
  exact ⟨es_, (bw_ HB).out⟩
 replace H := oc_ H
 obtain ⟨t193, A6, H⟩ := H
 replace H := il_ H
 rcases H with ⟨c7b0, H⟩ | ⟨c7b0, H⟩
 ·replace H := ief_ H
  obtain ⟨c8, c8b0, c8b1, H⟩ := H
  replace H := im_ H
  rcases H with ⟨c9b0, H⟩ | ⟨c9b0, H⟩
  ·obtain ⟨ji10, hji10⟩ : ∃ j_ : Int, (mx (wrap64 (Int.tdiv a0 (wrap64 (-t193)))) (wrap64 (-(wrap64 (Int.tdiv a0 (wrap64 (-t193))))))) = j_ := ⟨_, rfl⟩
   replace H : (some (wrap64 (Int.tdiv a0 (wrap64 (-t193))), wrap64 (Int.tdiv a1 (wrap64 (-t193))), decide ((ji10) ≤ 1000000))) = some (r1, r2, r3) := by first | (rw [hji10] at H; exact H) | (simp only [hji10] at H ⊢; exact H)
   (try rw [hji10] at A6)
   have hji10_k : (if (wrap64 (Int.tdiv a0 (wrap64 (-t193)))) < (IntKind.i64.wrap (-(wrap64 (Int.tdiv a0 (wrap64 (-t193)))))) then (IntKind.i64.wrap (-(wrap64 (Int.tdiv a0 (wrap64 (-t193)))))) else (wrap64 (Int.tdiv a0 (wrap64 (-t193))))) = ji10 := by simp only [i64_w]; exact hji10
   have hji10_ : (if (wrap64 (Int.tdiv a0 (wrap64 (-t193)))) < (wrap64 (-(wrap64 (Int.tdiv a0 (wrap64 (-t193)))))) then (wrap64 (-(wrap64 (Int.tdiv a0 (wrap64 (-t193)))))) else (wrap64 (Int.tdiv a0 (wrap64 (-t193))))) = ji10 := hji10
   simp only [Option.some.injEq, Prod.mk.injEq] at H
   obtain ⟨rfl, rfl, rfl⟩ := H
   go_enter Try.func174, Try.ntmps174
   try go_wp2_with (first | ((refine gd_ 4 ?_); (try (refine gate_guard (by rfl) ?_; dsimp only)); refine by_ 4 #[.int .i64 0, .int .i64 0] 74 HB ?_; intro gb192 hg w11 BK192 hb GW192 HB_; replace HB := HB_; clear hb hg) | ((refine gc_ 167 ?_); refine ge_ 13 Try.func167 #[.int .i64 a0, .int .i64 a1] ?_; (with_reducible refine (spec_l01Gcd.calls k a0 a1 t193 _ A6.out).mono ?_); rintro e w12 ⟨rfl, hb⟩; refine ⟨_, rfl, ?_⟩; replace BK192 := bb_ BK192 hb; replace HB := bt_ HB hb; (try clear hb)))
   replace BK192 := bd_ BK192
   replace HB := be_ HB
   refine start_ (n := 9) (S := fun w' => True) (ds := []) (bv_ 9 0) (by kernel_rfl) rfl rfl trivial (fun hHeld => ?_); refine with_tabW spec_l01EndOf.tab6 spec_l01EndOf.bits6 (fun HT_ HW_ => ?_)
   generalize w12.drew = w13 at BK192 HB hHeld ⊢
   refine px_ HT_ 0 18 1 ?_
   refine px_ HT_ 1 19 3 ?_
   refine px_ HT_ 2 20 7 ?_
   refine px_ HT_ 3 21 15 ?_
   refine px_ HT_ 4 22 31 ?_
   refine px_ HT_ 5 23 63 ?_
   refine px_ HT_ 6 24 127 ?_
   refine on_ HT_ 7 (some 7) (bv_ 9 255) (fun K hK => ?_)
   refine bz_ 7 #[.int .i64 0, .int .i64 0] 74 ?_
   intro gb194 hg w14 BK194 hb
   have GW194 := bs_ HB hg
   have NB192_194 := bm_ BK192 hg
   have NB194_192 := bn_ BK192 hg
   replace BK192 := bb_ BK192 hb
   replace HB := bt_ HB hb
   clear hb hg
   refine hK.out _ _ trivial (fun hHeld => ?_)
   clear hK K
   refine nm_ (some 7) ?_
   refine on_ HT_ 8 none (bv_ 9 511) (fun K hK => ?_)
   have hs15 : w14.cell? ⟨gb194, 0, none⟩ = some (.int .i64 0) := (blk_cell BK194.out 0).trans rfl
   have hfs15 := blk_frozen BK194.out 0
   have hns15_0 := NB192_194.out
   have hms15_0 := NB194_192.out
   have hs16 : w14.cell? ⟨gb194, 1, none⟩ = some (.int .i64 0) := (blk_cell BK194.out 1).trans rfl
   have hfs16 := blk_frozen BK194.out 1
   have hns16_0 := NB192_194.out
   have hms16_0 := NB194_192.out
   refine skip_ (w1 := ?_) (by rfl) rfl ?_ ?_
   rotate_left
   ·go_simp
    rfl
   refine hK.out _ _ trivial (fun hHeld => ?_)
   clear hK K
   refine done_ (done_of HT_.out (by kernel_rfl)) ?_
   try go_wp2
   have n0_ : Aside0 (((w14.setCell ⟨gb194, 0, none⟩ (.int .i64 (wrap64 (Int.tdiv a0 (wrap64 (-t193)))))).setCell ⟨gb194, 1, none⟩ (.int .i64 (wrap64 (Int.tdiv a1 (wrap64 (-t193)))))).heap[gb192]? = some (.cells #[.int .i64 0, .int .i64 0] 74 (0, 0))) := fl_ BK192 NB192_194
   have n1_ : Aside0 (((w14.setCell ⟨gb194, 0, none⟩ (.int .i64 (wrap64 (Int.tdiv a0 (wrap64 (-t193)))))).setCell ⟨gb194, 1, none⟩ (.int .i64 (wrap64 (Int.tdiv a1 (wrap64 (-t193)))))).heap[gb194]? = some (.cells #[.int .i64 (wrap64 (Int.tdiv a0 (wrap64 (-t193)))), .int .i64 (wrap64 (Int.tdiv a1 (wrap64 (-t193))))] 74 (0, 0))) := bp_ BK194
   have n2_ : Aside0 (Below w.heap.size w ((w14.setCell ⟨gb194, 0, none⟩ (.int .i64 (wrap64 (Int.tdiv a0 (wrap64 (-t193)))))).setCell ⟨gb194, 1, none⟩ (.int .i64 (wrap64 (Int.tdiv a1 (wrap64 (-t193))))))) := bw_ HB
   (try clear BK192)
   (try clear BK194)
   (try clear HB)
   generalize ((w14.setCell ⟨gb194, 0, none⟩ (.int .i64 (wrap64 (Int.tdiv a0 (wrap64 (-t193)))))).setCell ⟨gb194, 1, none⟩ (.int .i64 (wrap64 (Int.tdiv a1 (wrap64 (-t193)))))) = w17 at n0_ n1_ n2_ ⊢
   have BK192 := n0_
   have BK194 := n1_
   have HB := n2_
   clear n0_ n1_ n2_
   replace BK192 := bd_ BK192
   replace BK194 := bd_ BK194
   replace HB := be_ HB
   refine start_ (n := 15) (S := fun w' => w'.cell? ⟨gb194, 0, none⟩ = some (.int .i64 (wrap64 (Int.tdiv a0 (wrap64 (-t193))))) ∧ w'.cell? ⟨gb194, 1, none⟩ = some (.int .i64 (wrap64 (Int.tdiv a1 (wrap64 (-t193)))))) (ds := []) (bv_ 15 0) (by kernel_rfl) rfl rfl ⟨cz_ BK194 0, cz_ BK194 1⟩ (fun hHeld => ?_); refine with_tabW spec_l01EndOf.tab7 spec_l01EndOf.bits7 (fun HT_ HW_ => ?_)
   generalize w17.drew = w18 at BK192 BK194 HB hHeld ⊢
   refine px_ HT_ 1 26 2 ?_
   refine ta_ HT_ HW_ 0 (some 25) (bv_ 15 3) hHeld ?_ (hy := by rintro w' ⟨s0, s1⟩; go_simp; with_reducible rfl)
   refine ta_ HT_ HW_ 2 (some 27) (bv_ 15 7) hHeld ?_ (hy := by rintro w' ⟨s0, s1⟩; go_simp; with_reducible rfl)
   refine px_ HT_ 3 28 15 ?_
   refine px_ HT_ 4 29 31 ?_
   refine px_ HT_ 5 30 63 ?_
   refine px_ HT_ 7 32 191 ?_
   refine ta_ HT_ HW_ 6 (some 31) (bv_ 15 255) hHeld ?_ (hy := by rintro w' ⟨s0, s1⟩; go_simp; with_reducible rfl)
   refine ta_ HT_ HW_ 8 (some 33) (bv_ 15 511) hHeld ?_ (hy := by rintro w' ⟨s0, s1⟩; go_simp; with_reducible rfl)
   refine px_ HT_ 9 34 1023 ?_
   refine px_ HT_ 10 35 2047 ?_
   refine px_ HT_ 11 36 4095 ?_
   refine px_ HT_ 12 37 8191 ?_
   refine on_ HT_ 13 none (bv_ 15 16383) (fun K hK => ?_)
   have hs19 : w18.cell? ⟨gb192, 0, none⟩ = some (.int .i64 0) := (blk_cell BK192.out 0).trans rfl
   have hfs19 := blk_frozen BK192.out 0
   have hns19_1 := NB194_192.out
   have hms19_1 := NB192_194.out
   have hs20 : w18.cell? ⟨gb192, 1, none⟩ = some (.int .i64 0) := (blk_cell BK192.out 1).trans rfl
   have hfs20 := blk_frozen BK192.out 1
   have hns20_1 := NB194_192.out
   have hms20_1 := NB192_194.out
   refine skip_ (w1 := ?_) (by rfl) rfl ?_ ?_
   rotate_left
   ·go_simp
    rfl
   refine hK.out _ _ ⟨(cg_ NB194_192 ((cg_ NB194_192 (hHeld.1)))), (cg_ NB194_192 ((cg_ NB194_192 (hHeld.2))))⟩ (fun hHeld => ?_)
   clear hK K
   refine px_ HT_ 14 5 32767 ?_
   refine done_ (done_of HT_.out (by kernel_rfl)) ?_
   try go_wp2
   refine bodyPost_ret (results_ct rfl _ _ gb192 74 #[.int .i64 (wrap64 (Int.tdiv a0 (wrap64 (-t193)))), .int .i64 (wrap64 (Int.tdiv a1 (wrap64 (-t193))))] (0, 0) _ rfl (bp_ BK192).out Try.underlying74 rfl (by kernel_rfl)) rfl ?_
   exact ⟨by first | rfl | (simp [errW_none, errW_some] <;> rfl) | (simp only [← hji10]; first | rfl | (simp [errW_none, errW_some] <;> rfl)) | (simp [*, errW_none, errW_some] <;> rfl), (bw_ HB).out⟩
  simp only [Option.some.injEq, Prod.mk.injEq] at H
  obtain ⟨rfl, rfl, rfl⟩ := H
  go_enter Try.func174, Try.ntmps174
  try go_wp2_with (first | ((refine gd_ 4 ?_); (try (refine gate_guard (by rfl) ?_; dsimp only)); refine by_ 4 #[.int .i64 0, .int .i64 0] 74 HB ?_; intro gb192 hg w21 BK192 hb GW192 HB_; replace HB := HB_; clear hb hg) | ((refine gc_ 167 ?_); refine ge_ 13 Try.func167 #[.int .i64 a0, .int .i64 a1] ?_; (with_reducible refine (spec_l01Gcd.calls k a0 a1 t193 _ A6.out).mono ?_); rintro e w22 ⟨rfl, hb⟩; refine ⟨_, rfl, ?_⟩; replace BK192 := bb_ BK192 hb; replace HB := bt_ HB hb; (try clear hb)))
  replace BK192 := bd_ BK192
  replace HB := be_ HB
  refine start_ (n := 9) (S := fun w' => True) (ds := []) (bv_ 9 0) (by kernel_rfl) rfl rfl trivial (fun hHeld => ?_); refine with_tabW spec_l01EndOf.tab6 spec_l01EndOf.bits6 (fun HT_ HW_ => ?_)
  generalize w22.drew = w23 at BK192 HB hHeld ⊢
  refine px_ HT_ 0 18 1 ?_
  refine px_ HT_ 1 19 3 ?_
  refine px_ HT_ 2 20 7 ?_
  refine px_ HT_ 3 21 15 ?_
  refine px_ HT_ 4 22 31 ?_
  refine px_ HT_ 5 23 63 ?_
  refine px_ HT_ 6 24 127 ?_
  refine on_ HT_ 7 (some 7) (bv_ 9 255) (fun K hK => ?_)
  refine bz_ 7 #[.int .i64 0, .int .i64 0] 74 ?_
  intro gb194 hg w24 BK194 hb
  have GW194 := bs_ HB hg
  have NB192_194 := bm_ BK192 hg
  have NB194_192 := bn_ BK192 hg
  replace BK192 := bb_ BK192 hb
  replace HB := bt_ HB hb
  clear hb hg
  refine hK.out _ _ trivial (fun hHeld => ?_)
  clear hK K
  refine nm_ (some 7) ?_
  refine on_ HT_ 8 none (bv_ 9 511) (fun K hK => ?_)
  have hs25 : w24.cell? ⟨gb194, 0, none⟩ = some (.int .i64 0) := (blk_cell BK194.out 0).trans rfl
  have hfs25 := blk_frozen BK194.out 0
  have hns25_0 := NB192_194.out
  have hms25_0 := NB194_192.out
  have hs26 : w24.cell? ⟨gb194, 1, none⟩ = some (.int .i64 0) := (blk_cell BK194.out 1).trans rfl
  have hfs26 := blk_frozen BK194.out 1
  have hns26_0 := NB192_194.out
  have hms26_0 := NB194_192.out
  refine skip_ (w1 := ?_) (by rfl) rfl ?_ ?_
  rotate_left
  ·go_simp
   rfl
  refine hK.out _ _ trivial (fun hHeld => ?_)
  clear hK K
  refine done_ (done_of HT_.out (by kernel_rfl)) ?_
  try go_wp2
  have n0_ : Aside0 (((w24.setCell ⟨gb194, 0, none⟩ (.int .i64 (wrap64 (Int.tdiv a0 (wrap64 (-t193)))))).setCell ⟨gb194, 1, none⟩ (.int .i64 (wrap64 (Int.tdiv a1 (wrap64 (-t193)))))).heap[gb192]? = some (.cells #[.int .i64 0, .int .i64 0] 74 (0, 0))) := fl_ BK192 NB192_194
  have n1_ : Aside0 (((w24.setCell ⟨gb194, 0, none⟩ (.int .i64 (wrap64 (Int.tdiv a0 (wrap64 (-t193)))))).setCell ⟨gb194, 1, none⟩ (.int .i64 (wrap64 (Int.tdiv a1 (wrap64 (-t193)))))).heap[gb194]? = some (.cells #[.int .i64 (wrap64 (Int.tdiv a0 (wrap64 (-t193)))), .int .i64 (wrap64 (Int.tdiv a1 (wrap64 (-t193))))] 74 (0, 0))) := bp_ BK194
  have n2_ : Aside0 (Below w.heap.size w ((w24.setCell ⟨gb194, 0, none⟩ (.int .i64 (wrap64 (Int.tdiv a0 (wrap64 (-t193)))))).setCell ⟨gb194, 1, none⟩ (.int .i64 (wrap64 (Int.tdiv a1 (wrap64 (-t193))))))) := bw_ HB
  (try clear BK192)
  (try clear BK194)
  (try clear HB)
  generalize ((w24.setCell ⟨gb194, 0, none⟩ (.int .i64 (wrap64 (Int.tdiv a0 (wrap64 (-t193)))))).setCell ⟨gb194, 1, none⟩ (.int .i64 (wrap64 (Int.tdiv a1 (wrap64 (-t193)))))) = w27 at n0_ n1_ n2_ ⊢
  have BK192 := n0_
  have BK194 := n1_
  have HB := n2_
  clear n0_ n1_ n2_
  replace BK192 := bd_ BK192
  replace BK194 := bd_ BK194
  replace HB := be_ HB
  refine start_ (n := 15) (S := fun w' => w'.cell? ⟨gb194, 0, none⟩ = some (.int .i64 (wrap64 (Int.tdiv a0 (wrap64 (-t193))))) ∧ w'.cell? ⟨gb194, 1, none⟩ = some (.int .i64 (wrap64 (Int.tdiv a1 (wrap64 (-t193)))))) (ds := []) (bv_ 15 0) (by kernel_rfl) rfl rfl ⟨cz_ BK194 0, cz_ BK194 1⟩ (fun hHeld => ?_); refine with_tabW spec_l01EndOf.tab7 spec_l01EndOf.bits7 (fun HT_ HW_ => ?_)
  generalize w27.drew = w28 at BK192 BK194 HB hHeld ⊢
  refine px_ HT_ 1 26 2 ?_
  refine ta_ HT_ HW_ 0 (some 25) (bv_ 15 3) hHeld ?_ (hy := by rintro w' ⟨s0, s1⟩; go_simp; with_reducible rfl)
  refine ta_ HT_ HW_ 2 (some 27) (bv_ 15 7) hHeld ?_ (hy := by rintro w' ⟨s0, s1⟩; go_simp; with_reducible rfl)
  refine px_ HT_ 3 28 15 ?_
  refine px_ HT_ 4 29 31 ?_
  refine pv_ HT_ 5 (some 30) (bv_ 15 63) ?_
  refine pv_ HT_ 6 (some 31) (bv_ 15 127) ?_
  refine pv_ HT_ 7 (some 32) (bv_ 15 255) ?_
  refine pv_ HT_ 8 (some 33) (bv_ 15 511) ?_
  refine pv_ HT_ 9 (some 34) (bv_ 15 1023) ?_
  refine pv_ HT_ 10 (some 35) (bv_ 15 2047) ?_
  refine pv_ HT_ 11 (some 36) (bv_ 15 4095) ?_
  refine px_ HT_ 12 37 8191 ?_
  refine on_ HT_ 13 none (bv_ 15 16383) (fun K hK => ?_)
  have hs29 : w28.cell? ⟨gb192, 0, none⟩ = some (.int .i64 0) := (blk_cell BK192.out 0).trans rfl
  have hfs29 := blk_frozen BK192.out 0
  have hns29_1 := NB194_192.out
  have hms29_1 := NB192_194.out
  have hs30 : w28.cell? ⟨gb192, 1, none⟩ = some (.int .i64 0) := (blk_cell BK192.out 1).trans rfl
  have hfs30 := blk_frozen BK192.out 1
  have hns30_1 := NB194_192.out
  have hms30_1 := NB192_194.out
  refine skip_ (w1 := ?_) (by rfl) rfl ?_ ?_
  rotate_left
  ·go_simp
   rfl
  refine hK.out _ _ ⟨(cg_ NB194_192 ((cg_ NB194_192 (hHeld.1)))), (cg_ NB194_192 ((cg_ NB194_192 (hHeld.2))))⟩ (fun hHeld => ?_)
  clear hK K
  refine px_ HT_ 14 5 32767 ?_
  refine done_ (done_of HT_.out (by kernel_rfl)) ?_
  try go_wp2
  refine bodyPost_ret (results_ct rfl _ _ gb192 74 #[.int .i64 (wrap64 (Int.tdiv a0 (wrap64 (-t193)))), .int .i64 (wrap64 (Int.tdiv a1 (wrap64 (-t193))))] (0, 0) _ rfl (bp_ BK192).out Try.underlying74 rfl (by kernel_rfl)) rfl ?_
  exact ⟨es_, (bw_ HB).out⟩
 replace H := ief_ H
 obtain ⟨c31, c31b0, c31b1, H⟩ := H
 replace H := im_ H
 rcases H with ⟨c32b0, H⟩ | ⟨c32b0, H⟩
 ·obtain ⟨ji33, hji33⟩ : ∃ j_ : Int, (mx (wrap64 (Int.tdiv a0 t193)) (wrap64 (-(wrap64 (Int.tdiv a0 t193))))) = j_ := ⟨_, rfl⟩
  replace H : (some (wrap64 (Int.tdiv a0 t193), wrap64 (Int.tdiv a1 t193), decide ((ji33) ≤ 1000000))) = some (r1, r2, r3) := by first | (rw [hji33] at H; exact H) | (simp only [hji33] at H ⊢; exact H)
  (try rw [hji33] at A6)
  have hji33_k : (if (wrap64 (Int.tdiv a0 t193)) < (IntKind.i64.wrap (-(wrap64 (Int.tdiv a0 t193)))) then (IntKind.i64.wrap (-(wrap64 (Int.tdiv a0 t193)))) else (wrap64 (Int.tdiv a0 t193))) = ji33 := by simp only [i64_w]; exact hji33
  have hji33_ : (if (wrap64 (Int.tdiv a0 t193)) < (wrap64 (-(wrap64 (Int.tdiv a0 t193)))) then (wrap64 (-(wrap64 (Int.tdiv a0 t193)))) else (wrap64 (Int.tdiv a0 t193))) = ji33 := hji33
  simp only [Option.some.injEq, Prod.mk.injEq] at H
  obtain ⟨rfl, rfl, rfl⟩ := H
  go_enter Try.func174, Try.ntmps174
  try go_wp2_with (first | ((refine gd_ 4 ?_); (try (refine gate_guard (by rfl) ?_; dsimp only)); refine by_ 4 #[.int .i64 0, .int .i64 0] 74 HB ?_; intro gb192 hg w34 BK192 hb GW192 HB_; replace HB := HB_; clear hb hg) | ((refine gc_ 167 ?_); refine ge_ 13 Try.func167 #[.int .i64 a0, .int .i64 a1] ?_; (with_reducible refine (spec_l01Gcd.calls k a0 a1 t193 _ A6.out).mono ?_); rintro e w35 ⟨rfl, hb⟩; refine ⟨_, rfl, ?_⟩; replace BK192 := bb_ BK192 hb; replace HB := bt_ HB hb; (try clear hb)))
  replace BK192 := bd_ BK192
  replace HB := be_ HB
  refine start_ (n := 9) (S := fun w' => True) (ds := []) (bv_ 9 0) (by kernel_rfl) rfl rfl trivial (fun hHeld => ?_); refine with_tabW spec_l01EndOf.tab6 spec_l01EndOf.bits6 (fun HT_ HW_ => ?_)
  generalize w35.drew = w36 at BK192 HB hHeld ⊢
  refine px_ HT_ 0 18 1 ?_
  refine px_ HT_ 1 19 3 ?_
  refine px_ HT_ 2 20 7 ?_
  refine px_ HT_ 3 21 15 ?_
  refine px_ HT_ 4 22 31 ?_
  refine px_ HT_ 5 23 63 ?_
  refine px_ HT_ 6 24 127 ?_
  refine on_ HT_ 7 (some 7) (bv_ 9 255) (fun K hK => ?_)
  refine bz_ 7 #[.int .i64 0, .int .i64 0] 74 ?_
  intro gb195 hg w37 BK195 hb
  have GW195 := bs_ HB hg
  have NB192_195 := bm_ BK192 hg
  have NB195_192 := bn_ BK192 hg
  replace BK192 := bb_ BK192 hb
  replace HB := bt_ HB hb
  clear hb hg
  refine hK.out _ _ trivial (fun hHeld => ?_)
  clear hK K
  refine nm_ (some 7) ?_
  refine on_ HT_ 8 none (bv_ 9 511) (fun K hK => ?_)
  have hs38 : w37.cell? ⟨gb195, 0, none⟩ = some (.int .i64 0) := (blk_cell BK195.out 0).trans rfl
  have hfs38 := blk_frozen BK195.out 0
  have hns38_0 := NB192_195.out
  have hms38_0 := NB195_192.out
  have hs39 : w37.cell? ⟨gb195, 1, none⟩ = some (.int .i64 0) := (blk_cell BK195.out 1).trans rfl
  have hfs39 := blk_frozen BK195.out 1
  have hns39_0 := NB192_195.out
  have hms39_0 := NB195_192.out
  refine skip_ (w1 := ?_) (by rfl) rfl ?_ ?_
  rotate_left
  ·go_simp
   rfl
  refine hK.out _ _ trivial (fun hHeld => ?_)
  clear hK K
  refine done_ (done_of HT_.out (by kernel_rfl)) ?_
  try go_wp2
  have n0_ : Aside0 (((w37.setCell ⟨gb195, 0, none⟩ (.int .i64 (wrap64 (Int.tdiv a0 t193)))).setCell ⟨gb195, 1, none⟩ (.int .i64 (wrap64 (Int.tdiv a1 t193)))).heap[gb192]? = some (.cells #[.int .i64 0, .int .i64 0] 74 (0, 0))) := fl_ BK192 NB192_195
  have n1_ : Aside0 (((w37.setCell ⟨gb195, 0, none⟩ (.int .i64 (wrap64 (Int.tdiv a0 t193)))).setCell ⟨gb195, 1, none⟩ (.int .i64 (wrap64 (Int.tdiv a1 t193)))).heap[gb195]? = some (.cells #[.int .i64 (wrap64 (Int.tdiv a0 t193)), .int .i64 (wrap64 (Int.tdiv a1 t193))] 74 (0, 0))) := bp_ BK195
  have n2_ : Aside0 (Below w.heap.size w ((w37.setCell ⟨gb195, 0, none⟩ (.int .i64 (wrap64 (Int.tdiv a0 t193)))).setCell ⟨gb195, 1, none⟩ (.int .i64 (wrap64 (Int.tdiv a1 t193))))) := bw_ HB
  (try clear BK192)
  (try clear BK195)
  (try clear HB)
  generalize ((w37.setCell ⟨gb195, 0, none⟩ (.int .i64 (wrap64 (Int.tdiv a0 t193)))).setCell ⟨gb195, 1, none⟩ (.int .i64 (wrap64 (Int.tdiv a1 t193)))) = w40 at n0_ n1_ n2_ ⊢
  have BK192 := n0_
  have BK195 := n1_
  have HB := n2_
  clear n0_ n1_ n2_
  replace BK192 := bd_ BK192
  replace BK195 := bd_ BK195
  replace HB := be_ HB
  refine start_ (n := 15) (S := fun w' => w'.cell? ⟨gb195, 0, none⟩ = some (.int .i64 (wrap64 (Int.tdiv a0 t193))) ∧ w'.cell? ⟨gb195, 1, none⟩ = some (.int .i64 (wrap64 (Int.tdiv a1 t193)))) (ds := []) (bv_ 15 0) (by kernel_rfl) rfl rfl ⟨cz_ BK195 0, cz_ BK195 1⟩ (fun hHeld => ?_); refine with_tabW spec_l01EndOf.tab7 spec_l01EndOf.bits7 (fun HT_ HW_ => ?_)
  generalize w40.drew = w41 at BK192 BK195 HB hHeld ⊢
  refine px_ HT_ 1 26 2 ?_
  refine ta_ HT_ HW_ 0 (some 25) (bv_ 15 3) hHeld ?_ (hy := by rintro w' ⟨s0, s1⟩; go_simp; with_reducible rfl)
  refine ta_ HT_ HW_ 2 (some 27) (bv_ 15 7) hHeld ?_ (hy := by rintro w' ⟨s0, s1⟩; go_simp; with_reducible rfl)
  refine px_ HT_ 3 28 15 ?_
  refine px_ HT_ 4 29 31 ?_
  refine px_ HT_ 5 30 63 ?_
  refine px_ HT_ 7 32 191 ?_
  refine ta_ HT_ HW_ 6 (some 31) (bv_ 15 255) hHeld ?_ (hy := by rintro w' ⟨s0, s1⟩; go_simp; with_reducible rfl)
  refine ta_ HT_ HW_ 8 (some 33) (bv_ 15 511) hHeld ?_ (hy := by rintro w' ⟨s0, s1⟩; go_simp; with_reducible rfl)
  refine px_ HT_ 9 34 1023 ?_
  refine px_ HT_ 10 35 2047 ?_
  refine px_ HT_ 11 36 4095 ?_
  refine px_ HT_ 12 37 8191 ?_
  refine on_ HT_ 13 none (bv_ 15 16383) (fun K hK => ?_)
  have hs42 : w41.cell? ⟨gb192, 0, none⟩ = some (.int .i64 0) := (blk_cell BK192.out 0).trans rfl
  have hfs42 := blk_frozen BK192.out 0
  have hns42_1 := NB195_192.out
  have hms42_1 := NB192_195.out
  have hs43 : w41.cell? ⟨gb192, 1, none⟩ = some (.int .i64 0) := (blk_cell BK192.out 1).trans rfl
  have hfs43 := blk_frozen BK192.out 1
  have hns43_1 := NB195_192.out
  have hms43_1 := NB192_195.out
  refine skip_ (w1 := ?_) (by rfl) rfl ?_ ?_
  rotate_left
  ·go_simp
   rfl
  refine hK.out _ _ ⟨(cg_ NB195_192 ((cg_ NB195_192 (hHeld.1)))), (cg_ NB195_192 ((cg_ NB195_192 (hHeld.2))))⟩ (fun hHeld => ?_)
  clear hK K
  refine px_ HT_ 14 5 32767 ?_
  refine done_ (done_of HT_.out (by kernel_rfl)) ?_
  try go_wp2
  refine bodyPost_ret (results_ct rfl _ _ gb192 74 #[.int .i64 (wrap64 (Int.tdiv a0 t193)), .int .i64 (wrap64 (Int.tdiv a1 t193))] (0, 0) _ rfl (bp_ BK192).out Try.underlying74 rfl (by kernel_rfl)) rfl ?_
  exact ⟨by first | rfl | (simp [errW_none, errW_some] <;> rfl) | (simp only [← hji33]; first | rfl | (simp [errW_none, errW_some] <;> rfl)) | (simp [*, errW_none, errW_some] <;> rfl), (bw_ HB).out⟩
 simp only [Option.some.injEq, Prod.mk.injEq] at H
 obtain ⟨rfl, rfl, rfl⟩ := H
 go_enter Try.func174, Try.ntmps174
 try go_wp2_with (first | ((refine gd_ 4 ?_); (try (refine gate_guard (by rfl) ?_; dsimp only)); refine by_ 4 #[.int .i64 0, .int .i64 0] 74 HB ?_; intro gb192 hg w44 BK192 hb GW192 HB_; replace HB := HB_; clear hb hg) | ((refine gc_ 167 ?_); refine ge_ 13 Try.func167 #[.int .i64 a0, .int .i64 a1] ?_; (with_reducible refine (spec_l01Gcd.calls k a0 a1 t193 _ A6.out).mono ?_); rintro e w45 ⟨rfl, hb⟩; refine ⟨_, rfl, ?_⟩; replace BK192 := bb_ BK192 hb; replace HB := bt_ HB hb; (try clear hb)))
 replace BK192 := bd_ BK192
 replace HB := be_ HB
 refine start_ (n := 9) (S := fun w' => True) (ds := []) (bv_ 9 0) (by kernel_rfl) rfl rfl trivial (fun hHeld => ?_); refine with_tabW spec_l01EndOf.tab6 spec_l01EndOf.bits6 (fun HT_ HW_ => ?_)
 generalize w45.drew = w46 at BK192 HB hHeld ⊢
 refine px_ HT_ 0 18 1 ?_
 refine px_ HT_ 1 19 3 ?_
 refine px_ HT_ 2 20 7 ?_
 refine px_ HT_ 3 21 15 ?_
 refine px_ HT_ 4 22 31 ?_
 refine px_ HT_ 5 23 63 ?_
 refine px_ HT_ 6 24 127 ?_
 refine on_ HT_ 7 (some 7) (bv_ 9 255) (fun K hK => ?_)
 refine bz_ 7 #[.int .i64 0, .int .i64 0] 74 ?_
 intro gb195 hg w47 BK195 hb
 have GW195 := bs_ HB hg
 have NB192_195 := bm_ BK192 hg
 have NB195_192 := bn_ BK192 hg
 replace BK192 := bb_ BK192 hb
 replace HB := bt_ HB hb
 clear hb hg
 refine hK.out _ _ trivial (fun hHeld => ?_)
 clear hK K
 refine nm_ (some 7) ?_
 refine on_ HT_ 8 none (bv_ 9 511) (fun K hK => ?_)
 have hs48 : w47.cell? ⟨gb195, 0, none⟩ = some (.int .i64 0) := (blk_cell BK195.out 0).trans rfl
 have hfs48 := blk_frozen BK195.out 0
 have hns48_0 := NB192_195.out
 have hms48_0 := NB195_192.out
 have hs49 : w47.cell? ⟨gb195, 1, none⟩ = some (.int .i64 0) := (blk_cell BK195.out 1).trans rfl
 have hfs49 := blk_frozen BK195.out 1
 have hns49_0 := NB192_195.out
 have hms49_0 := NB195_192.out
 refine skip_ (w1 := ?_) (by rfl) rfl ?_ ?_
 rotate_left
 ·go_simp
  rfl
 refine hK.out _ _ trivial (fun hHeld => ?_)
 clear hK K
 refine done_ (done_of HT_.out (by kernel_rfl)) ?_
 try go_wp2
 have n0_ : Aside0 (((w47.setCell ⟨gb195, 0, none⟩ (.int .i64 (wrap64 (Int.tdiv a0 t193)))).setCell ⟨gb195, 1, none⟩ (.int .i64 (wrap64 (Int.tdiv a1 t193)))).heap[gb192]? = some (.cells #[.int .i64 0, .int .i64 0] 74 (0, 0))) := fl_ BK192 NB192_195
 have n1_ : Aside0 (((w47.setCell ⟨gb195, 0, none⟩ (.int .i64 (wrap64 (Int.tdiv a0 t193)))).setCell ⟨gb195, 1, none⟩ (.int .i64 (wrap64 (Int.tdiv a1 t193)))).heap[gb195]? = some (.cells #[.int .i64 (wrap64 (Int.tdiv a0 t193)), .int .i64 (wrap64 (Int.tdiv a1 t193))] 74 (0, 0))) := bp_ BK195
 have n2_ : Aside0 (Below w.heap.size w ((w47.setCell ⟨gb195, 0, none⟩ (.int .i64 (wrap64 (Int.tdiv a0 t193)))).setCell ⟨gb195, 1, none⟩ (.int .i64 (wrap64 (Int.tdiv a1 t193))))) := bw_ HB
 (try clear BK192)
 (try clear BK195)
 (try clear HB)
 generalize ((w47.setCell ⟨gb195, 0, none⟩ (.int .i64 (wrap64 (Int.tdiv a0 t193)))).setCell ⟨gb195, 1, none⟩ (.int .i64 (wrap64 (Int.tdiv a1 t193)))) = w50 at n0_ n1_ n2_ ⊢
 have BK192 := n0_
 have BK195 := n1_
 have HB := n2_
 clear n0_ n1_ n2_
 replace BK192 := bd_ BK192
 replace BK195 := bd_ BK195
 replace HB := be_ HB
 refine start_ (n := 15) (S := fun w' => w'.cell? ⟨gb195, 0, none⟩ = some (.int .i64 (wrap64 (Int.tdiv a0 t193))) ∧ w'.cell? ⟨gb195, 1, none⟩ = some (.int .i64 (wrap64 (Int.tdiv a1 t193)))) (ds := []) (bv_ 15 0) (by kernel_rfl) rfl rfl ⟨cz_ BK195 0, cz_ BK195 1⟩ (fun hHeld => ?_); refine with_tabW spec_l01EndOf.tab7 spec_l01EndOf.bits7 (fun HT_ HW_ => ?_)
 generalize w50.drew = w51 at BK192 BK195 HB hHeld ⊢
 refine px_ HT_ 1 26 2 ?_
 refine ta_ HT_ HW_ 0 (some 25) (bv_ 15 3) hHeld ?_ (hy := by rintro w' ⟨s0, s1⟩; go_simp; with_reducible rfl)
 refine ta_ HT_ HW_ 2 (some 27) (bv_ 15 7) hHeld ?_ (hy := by rintro w' ⟨s0, s1⟩; go_simp; with_reducible rfl)
 refine px_ HT_ 3 28 15 ?_
 refine px_ HT_ 4 29 31 ?_
 refine pv_ HT_ 5 (some 30) (bv_ 15 63) ?_
 refine pv_ HT_ 6 (some 31) (bv_ 15 127) ?_
 refine pv_ HT_ 7 (some 32) (bv_ 15 255) ?_
 refine pv_ HT_ 8 (some 33) (bv_ 15 511) ?_
 refine pv_ HT_ 9 (some 34) (bv_ 15 1023) ?_
 refine pv_ HT_ 10 (some 35) (bv_ 15 2047) ?_
 refine pv_ HT_ 11 (some 36) (bv_ 15 4095) ?_
 refine px_ HT_ 12 37 8191 ?_
 refine on_ HT_ 13 none (bv_ 15 16383) (fun K hK => ?_)
 have hs52 : w51.cell? ⟨gb192, 0, none⟩ = some (.int .i64 0) := (blk_cell BK192.out 0).trans rfl
 have hfs52 := blk_frozen BK192.out 0
 have hns52_1 := NB195_192.out
 have hms52_1 := NB192_195.out
 have hs53 : w51.cell? ⟨gb192, 1, none⟩ = some (.int .i64 0) := (blk_cell BK192.out 1).trans rfl
 have hfs53 := blk_frozen BK192.out 1
 have hns53_1 := NB195_192.out
 have hms53_1 := NB192_195.out
 refine skip_ (w1 := ?_) (by rfl) rfl ?_ ?_
 rotate_left
 ·go_simp
  rfl
 refine hK.out _ _ ⟨(cg_ NB195_192 ((cg_ NB195_192 (hHeld.1)))), (cg_ NB195_192 ((cg_ NB195_192 (hHeld.2))))⟩ (fun hHeld => ?_)
 clear hK K
 refine px_ HT_ 14 5 32767 ?_
 refine done_ (done_of HT_.out (by kernel_rfl)) ?_
 try go_wp2
 refine bodyPost_ret (results_ct rfl _ _ gb192 74 #[.int .i64 (wrap64 (Int.tdiv a0 t193)), .int .i64 (wrap64 (Int.tdiv a1 t193))] (0, 0) _ rfl (bp_ BK192).out Try.underlying74 rfl (by kernel_rfl)) rfl ?_
 exact ⟨es_, (bw_ HB).out⟩
def spec_l04End.f (k : Nat) (a0_0 a0_1 a0_2 a0_3 a1_0 a1_1 : Int) : Option (Int × Int × Bool) := (spec_l01EndOf.f k (wrap64 ((wrap64 (a0_0 * a1_0)) + (wrap64 (a0_1 * a1_1)))) (wrap64 ((wrap64 (a0_2 * a1_0)) + (wrap64 (a0_3 * a1_1))))).bind fun bt199 => (some (bt199.1, bt199.2.1, bt199.2.2))
theorem spec_l04End.calls (k : Nat) (a0_0 a0_1 a0_2 a0_3 a1_0 a1_1 r1 r2 : Int) (r3 : Bool) (w : World) (h : spec_l04End.f k a0_0 a0_1 a0_2 a0_3 a1_0 a1_1 = some (r1, r2, r3)) :
  Calls Try.prog 136 #[.agg #[.int .i64 a0_0, .int .i64 a0_1, .int .i64 a0_2, .int .i64 a0_3], .agg #[.int .i64 a1_0, .int .i64 a1_1]] w fun e w' => e = .returned (.tuple #[.agg #[.int .i64 r1, .int .i64 r2], .bool r3]) ∧ Below w.heap.size w w' := by
 have hu46 := Try.underlying46
 have hu74 := Try.underlying74
 have hu44 := Try.underlying44
 have HB := Aside0.mk (Below.refl w.heap.size w)
 unfold spec_l04End.f at h
 have H := h
 clear h
 replace H := oc_ H
 obtain ⟨⟨t199, t200, t201⟩, A3, H⟩ := H
 simp only [Option.some.injEq, Prod.mk.injEq] at H
 obtain ⟨rfl, rfl, rfl⟩ := H
 go_enter Try.func136, Try.ntmps136
 go_wp2_with (first | ((refine gd_ 2 ?_); refine by_ 2 #[.int .i64 a0_0, .int .i64 a0_1, .int .i64 a0_2, .int .i64 a0_3] 46 HB ?_; intro gb196 hg w4 BK196 hb GW196 HB_; replace HB := HB_; clear hb hg) | ((refine gd_ 3 ?_); refine by_ 3 #[.int .i64 a1_0, .int .i64 a1_1] 74 HB ?_; intro gb197 hg w5 BK197 hb GW197 HB_; have NB196_197 := bm_ BK196 hg; have NB197_196 := bn_ BK196 hg; replace BK196 := bb_ BK196 hb; replace HB := HB_; clear hb hg) | ((refine gd_ 4 ?_); refine by_ 4 #[.int .i64 0, .int .i64 0] 74 HB ?_; intro gb198 hg w6 BK198 hb GW198 HB_; have NB196_198 := bm_ BK196 hg; have NB198_196 := bn_ BK196 hg; have NB197_198 := bm_ BK197 hg; have NB198_197 := bn_ BK197 hg; replace BK196 := bb_ BK196 hb; replace BK197 := bb_ BK197 hb; replace HB := HB_; clear hb hg; have hnb7 := NB196_197.out; have hnc7 := NB197_196.out; have hnb8 := NB196_198.out; have hnc8 := NB198_196.out; obtain ⟨hcz9_0, hcz9_1, hcz9_2, hcz9_3, hfz9_0, hfz9_1, hfz9_2, hfz9_3⟩ := ch4_ BK196; have hnb10 := NB197_198.out; have hnc10 := NB198_197.out; obtain ⟨hcz11_0, hcz11_1, hfz11_0, hfz11_1⟩ := ch2_ BK197) | ((refine gc_ 174 ?_); refine ge_ 32 Try.func174 #[.int .i64 (wrap64 ((wrap64 (a0_0 * a1_0)) + (wrap64 (a0_1 * a1_1)))), .int .i64 (wrap64 ((wrap64 (a0_2 * a1_0)) + (wrap64 (a0_3 * a1_1))))] ?_; (with_reducible refine (spec_l01EndOf.calls k (wrap64 ((wrap64 (a0_0 * a1_0)) + (wrap64 (a0_1 * a1_1)))) (wrap64 ((wrap64 (a0_2 * a1_0)) + (wrap64 (a0_3 * a1_1)))) t199 t200 t201 _ A3.out).mono ?_); rintro e w12 ⟨rfl, hb⟩; refine ⟨_, rfl, ?_⟩; replace BK196 := bb_ BK196 hb; replace BK197 := bb_ BK197 hb; replace BK198 := bb_ BK198 hb; replace HB := bt_ HB hb; (try clear hb); obtain ⟨hcz13_0, hcz13_1, hfz13_0, hfz13_1⟩ := ch2_ BK198))
 refine bodyPost_ret (results_ct rfl _ _ gb198 74 #[.int .i64 t199, .int .i64 t200] (0, 0) _ rfl (bp_ BK198).out Try.underlying74 rfl (by kernel_rfl)) rfl ?_
 exact ⟨es_, (bw_ HB).out⟩
end Go.Proofs.Ytgoeelhiffbjlaa.QB
