import Derived.Test.YtgoeelhiffbjlaaQRx8
import Derived.Test.YtgoeelhiffbjlaaQRx11
namespace Go.Proofs.Ytgoeelhiffbjlaa.QR
set_option maxHeartbeats 8000000
set_option maxRecDepth 100000
open Go.RowKit Go.Proofs.YtgoeelhiffbjlaaW.PrintWords Go.Proofs.YtgoeelhiffbjlaaW.PrintLast Go.Proofs.YtgoeelhiffbjlaaW.PrintMore
attribute [local go_sem] isSome_setCell max2_int min2_int max_two min_two max_three min_three max_four min_four
set_option linter.unusedVariables false
set_option linter.unusedSimpArgs false

/-! ### spec_l01Parent: function 152 -/
def spec_l01Parent.f (k : Nat) (a0 : Int) (a1_0 : Int) (a1_1 : Int) (a1_2 : Int) : Option (Int × Int × Int × Bool) := (spec_l01Power.f k a0 a1_2).bind fun t346 => ((spec_l01Of.f k a0 a1_1 t346 (wrap64 (a1_0 - 1))).bind fun bt347 => (some (bt347.1, bt347.2.1, bt347.2.2.1, bt347.2.2.2)))
def spec_l01Parent.T1 : Bool × List (List Nat × List Nat) := (true, [([], []), ([], []), ([1], [1]), ([], []), ([], []), ([4], [4]), ([3, 5], [3, 5]), ([], []), ([7], [7]), ([8], [8]), ([0, 2, 6, 9, 6], [0, 2, 6, 9]), ([10], [10]), ([11], [11]), ([11], [11]), ([], []), ([14, 12, 10, 0, 1, 2, 3, 4, 5, 6, 7, 8, 9, 10, 11, 12, 14], [12, 14]), ([13, 15, 0, 1, 2, 3, 4, 5, 6, 7, 8, 9, 10, 11, 12, 13, 14, 15], [13])])
def spec_l01Parent.B1 : List Nat := [0, 0, 2, 0, 0, 16, 56, 0, 128, 384, 1023, 2047, 4095, 4095, 0, 24575, 65535]
theorem spec_l01Parent.tab1 : rtab .any (opsOf Try.f152 1) = spec_l01Parent.T1 := by kernel_rfl
theorem spec_l01Parent.bits1 : waitsOk spec_l01Parent.T1.2 spec_l01Parent.B1 = true := by kernel_rfl
theorem spec_l01Parent.calls (k : Nat) (a0 : Int) (a1_0 : Int) (a1_1 : Int) (a1_2 : Int) (r1 : Int) (r2 : Int) (r3 : Int) (r4 : Bool) (w : World) (h : spec_l01Parent.f k a0 a1_0 a1_1 a1_2 = some (r1, r2, r3, r4)) :
  Calls Try.prog 152 #[.int .i64 a0, .agg #[.int .i64 a1_0, .int .i64 a1_1, .int .i64 a1_2]] w fun e w' => e = .returned (.tuple #[.agg #[.int .i64 r1, .int .i64 r2, .int .i64 r3], .bool r4]) ∧ Below w.heap.size w w' := by
 have hu25 := Try.underlying25
 have HB := Aside0.mk (Below.refl w.heap.size w)
 have H : ((spec_l01Power.f k a0 a1_2).bind fun t346 => ((spec_l01Of.f k a0 a1_1 t346 (wrap64 (a1_0 - 1))).bind fun bt347 => (some (bt347.1, bt347.2.1, bt347.2.2.1, bt347.2.2.2)))) = some (r1, r2, r3, r4) := h
 clear h
 replace H := ob_ H
 obtain ⟨t346, A30, H⟩ := H
 have A3 := Aside0.mk A30
 clear A30
 replace H := ob_ H
 obtain ⟨⟨t347, t348, t349, t350⟩, A40, H⟩ := H
 have A4 := Aside0.mk A40
 clear A40
 simp only [Option.some.injEq, Prod.mk.injEq] at H
 obtain ⟨rfl, rfl, rfl, rfl⟩ := H
 go_enter Try.func152, Try.ntmps152
 try go_wp2_with (first | ((refine gd_ 3 ?_); refine bx_ 3 #[.int .i64 a1_0, .int .i64 a1_1, .int .i64 a1_2] 25 ?_; intro gb344 hg w5 BK344 hb; have GW344 := bs_ HB hg; have GE344 := bs_ HB hg; replace HB := bt_ HB hb; clear hb hg) | ((refine gd_ 4 ?_); refine bx_ 4 #[.int .i64 0, .int .i64 0, .int .i64 0] 25 ?_; intro gb345 hg w6 BK345 hb; have GW345 := bs_ HB hg; have GE345 := bs_ HB hg; have NB344_345 := bm_ BK344 hg; have NB345_344 := bn_ BK344 hg; replace BK344 := bb_ BK344 hb; replace HB := bt_ HB hb; clear hb hg))
 replace BK344 := Aside0.mk (blk_drew BK344.out)
 replace BK345 := Aside0.mk (blk_drew BK345.out)
 replace HB := Aside0.mk (below_drew1 HB.out)
 refine start_ (n := 17) (S := fun w' => w'.cell? ⟨gb344, 0, none⟩ = some (.int .i64 a1_0) ∧ w'.cell? ⟨gb344, 1, none⟩ = some (.int .i64 a1_1) ∧ w'.cell? ⟨gb344, 2, none⟩ = some (.int .i64 a1_2)) (ds := []) (bv_ 17 0) (by kernel_rfl) rfl rfl ⟨cz_ BK344 0, cz_ BK344 1, cz_ BK344 2⟩ (fun hHeld => ?_); refine with_tabW spec_l01Parent.tab1 spec_l01Parent.bits1 (fun HT_ HW_ => ?_)
 generalize w6.drew = w7 at BK344 BK345 HB hHeld ⊢
 refine px_ HT_ 0 9 1 ?_
 refine px_ HT_ 1 10 3 ?_
 refine px_ HT_ 3 12 11 ?_
 refine px_ HT_ 4 13 27 ?_
 refine px_ HT_ 7 16 155 ?_
 refine ta_ HT_ HW_ 2 (some 11) (bv_ 17 159) hHeld ?_ (hy := by rintro w' ⟨s0, s1, s2⟩; go_simp; with_reducible rfl)
 refine ta_ HT_ HW_ 5 (some 14) (bv_ 17 191) hHeld ?_ (hy := by rintro w' ⟨s0, s1, s2⟩; go_simp; with_reducible rfl)
 refine ta_ HT_ HW_ 8 (some 17) (bv_ 17 447) hHeld ?_ (hy := by rintro w' ⟨s0, s1, s2⟩; go_simp; with_reducible rfl)
 refine px_ HT_ 9 18 959 ?_
 refine join_ (σ := Nat) 2 (bv_ 17 32767) (fun s_ => [(15, .int .i64 t346), (19, .tuple #[.agg #[.int .i64 t347, .int .i64 t348, .int .i64 t349], .bool t350]), (6, .pointer (some ⟨s_, 0, none⟩)), (8, .tuple #[.agg #[.int .i64 t347, .int .i64 t348, .int .i64 t349], .bool t350]), (20, .agg #[.int .i64 t347, .int .i64 t348, .int .i64 t349]), (21, .bool t350)]) (fun s_ w' => (w'.cell? ⟨gb344, 0, none⟩ = some (.int .i64 a1_0) ∧ w'.cell? ⟨gb344, 1, none⟩ = some (.int .i64 a1_1) ∧ w'.cell? ⟨gb344, 2, none⟩ = some (.int .i64 a1_2)) ∧ (w'.heap[gb344]? = some (.cells #[.int .i64 a1_0, .int .i64 a1_1, .int .i64 a1_2] 25 (0, 0))) ∧ (w'.heap[gb345]? = some (.cells #[.int .i64 0, .int .i64 0, .int .i64 0] 25 (0, 0))) ∧ (w'.heap[s_]? = some (.cells #[.int .i64 0, .int .i64 0, .int .i64 0] 25 (0, 0))) ∧ (w.heap.size ≤ s_) ∧ (w.heap.size ≤ s_) ∧ (gb344 ≠ s_) ∧ (s_ ≠ gb344) ∧ (gb345 ≠ s_) ∧ (s_ ≠ gb345) ∧ (Below w.heap.size w w')) ?_ ?_
 rotate_left
 ·intro hCont
  refine tw_ HT_ 6 14 (some 15) (some 6) (bv_ 17 1023) (bv_ 17 17343) (fun K hK => ?_) (fun K hK => ?_)
  ·skip
   refine gs_ Try.func169 #[.int .i64 a0, .int .i64 a1_2] ?_
   with_reducible refine (spec_l01Power.calls k a0 a1_2 t346 _ A3.out).mono ?_
   rintro e w' ⟨rfl, ⟨nd, rfl⟩⟩
   refine ⟨_, rfl, ?_⟩
   refine hK.out _ _ ⟨cz_ BK344 0, cz_ BK344 1, cz_ BK344 2⟩ (fun hHeld => ?_)
   clear hK K
   refine nm_ (some 15) ?_
   refine tw_ HT_ 10 14 (some 19) (some 6) (bv_ 17 2047) (bv_ 17 17407) (fun K hK => ?_) (fun K hK => ?_)
   ·skip
    refine gs_ Try.func170 #[.int .i64 a0, .int .i64 a1_1, .int .i64 t346, .int .i64 (wrap64 (a1_0 - 1))] ?_
    with_reducible refine (spec_l01Of.calls k a0 a1_1 t346 (wrap64 (a1_0 - 1)) t347 t348 t349 t350 _ A4.out).mono ?_
    rintro e w8 ⟨rfl, hb⟩
    refine ⟨_, rfl, ?_⟩
    replace BK344 := bb_ BK344 hb
    replace BK345 := bb_ BK345 hb
    replace HB := bt_ HB hb
    (try clear hb)
    (try clear hb2)
    (try clear hk)
    (try clear hi)
    refine hK.out _ _ ⟨cz_ BK344 0, cz_ BK344 1, cz_ BK344 2⟩ (fun hHeld => ?_)
    clear hK K
    refine nm_ (some 19) ?_
    refine px_ HT_ 11 8 4095 ?_
    refine px_ HT_ 12 20 8191 ?_
    refine px_ HT_ 13 21 16383 ?_
    refine on_ HT_ 14 (some 6) (bv_ 17 32767) (fun K hK => ?_)
    refine bz_ 6 #[.int .i64 0, .int .i64 0, .int .i64 0] 25 ?_
    intro gb351 hg w9 BK351 hb
    have GW351 := bs_ HB hg
    have GE351 := bs_ HB hg
    have NB344_351 := bm_ BK344 hg
    have NB351_344 := bn_ BK344 hg
    have NB345_351 := bm_ BK345 hg
    have NB351_345 := bn_ BK345 hg
    replace BK344 := bb_ BK344 hb
    replace BK345 := bb_ BK345 hb
    replace HB := bt_ HB hb
    clear hb hg
    refine hK.out _ _ ⟨cz_ BK344 0, cz_ BK344 1, cz_ BK344 2⟩ (fun hHeld => ?_)
    clear hK K
    refine nm_ (some 6) ?_
    exact norm_ (by simp only [putAll, Act.put, lstS, lstZ, lstC]) (hCont (gb351) _ ⟨hHeld, (bl_ BK344).out, (bl_ BK345).out, (bl_ BK351).out, GW351.out, GE351.out, NB344_351.out, NB351_344.out, NB345_351.out, NB351_345.out, (bw_ HB).out⟩)
   ·skip
    refine bz_ 6 #[.int .i64 0, .int .i64 0, .int .i64 0] 25 ?_
    intro gb351 hg w8 BK351 hb
    have GW351 := bs_ HB hg
    have GE351 := bs_ HB hg
    have NB344_351 := bm_ BK344 hg
    have NB351_344 := bn_ BK344 hg
    have NB345_351 := bm_ BK345 hg
    have NB351_345 := bn_ BK345 hg
    replace BK344 := bb_ BK344 hb
    replace BK345 := bb_ BK345 hb
    replace HB := bt_ HB hb
    clear hb hg
    refine hK.out _ _ ⟨cz_ BK344 0, cz_ BK344 1, cz_ BK344 2⟩ (fun hHeld => ?_)
    clear hK K
    refine nm_ (some 6) ?_
    refine on_ HT_ 10 (some 19) (bv_ 17 18431) (fun K hK => ?_)
    refine gs_ Try.func170 #[.int .i64 a0, .int .i64 a1_1, .int .i64 t346, .int .i64 (wrap64 (a1_0 - 1))] ?_
    with_reducible refine (spec_l01Of.calls k a0 a1_1 t346 (wrap64 (a1_0 - 1)) t347 t348 t349 t350 _ A4.out).mono ?_
    rintro e w9 ⟨rfl, hb⟩
    refine ⟨_, rfl, ?_⟩
    replace BK344 := bb_ BK344 hb
    replace BK345 := bb_ BK345 hb
    replace BK351 := bb_ BK351 hb
    replace HB := bt_ HB hb
    (try clear hb)
    (try clear hb2)
    (try clear hk)
    (try clear hi)
    refine hK.out _ _ ⟨cz_ BK344 0, cz_ BK344 1, cz_ BK344 2⟩ (fun hHeld => ?_)
    clear hK K
    refine nm_ (some 19) ?_
    refine px_ HT_ 11 8 20479 ?_
    refine px_ HT_ 12 20 24575 ?_
    refine px_ HT_ 13 21 32767 ?_
    exact norm_ (by simp only [putAll, Act.put, lstS, lstZ, lstC]) (hCont (gb351) _ ⟨hHeld, (bl_ BK344).out, (bl_ BK345).out, (bl_ BK351).out, GW351.out, GE351.out, NB344_351.out, NB351_344.out, NB345_351.out, NB351_345.out, (bw_ HB).out⟩)
  ·skip
   refine bz_ 6 #[.int .i64 0, .int .i64 0, .int .i64 0] 25 ?_
   intro gb351 hg w8 BK351 hb
   have GW351 := bs_ HB hg
   have GE351 := bs_ HB hg
   have NB344_351 := bm_ BK344 hg
   have NB351_344 := bn_ BK344 hg
   have NB345_351 := bm_ BK345 hg
   have NB351_345 := bn_ BK345 hg
   replace BK344 := bb_ BK344 hb
   replace BK345 := bb_ BK345 hb
   replace HB := bt_ HB hb
   clear hb hg
   refine hK.out _ _ ⟨cz_ BK344 0, cz_ BK344 1, cz_ BK344 2⟩ (fun hHeld => ?_)
   clear hK K
   refine nm_ (some 6) ?_
   refine on_ HT_ 6 (some 15) (bv_ 17 17407) (fun K hK => ?_)
   refine gs_ Try.func169 #[.int .i64 a0, .int .i64 a1_2] ?_
   with_reducible refine (spec_l01Power.calls k a0 a1_2 t346 _ A3.out).mono ?_
   rintro e w' ⟨rfl, ⟨nd, rfl⟩⟩
   refine ⟨_, rfl, ?_⟩
   refine hK.out _ _ ⟨cz_ BK344 0, cz_ BK344 1, cz_ BK344 2⟩ (fun hHeld => ?_)
   clear hK K
   refine nm_ (some 15) ?_
   refine on_ HT_ 10 (some 19) (bv_ 17 18431) (fun K hK => ?_)
   refine gs_ Try.func170 #[.int .i64 a0, .int .i64 a1_1, .int .i64 t346, .int .i64 (wrap64 (a1_0 - 1))] ?_
   with_reducible refine (spec_l01Of.calls k a0 a1_1 t346 (wrap64 (a1_0 - 1)) t347 t348 t349 t350 _ A4.out).mono ?_
   rintro e w9 ⟨rfl, hb⟩
   refine ⟨_, rfl, ?_⟩
   replace BK344 := bb_ BK344 hb
   replace BK345 := bb_ BK345 hb
   replace BK351 := bb_ BK351 hb
   replace HB := bt_ HB hb
   (try clear hb)
   (try clear hb2)
   (try clear hk)
   (try clear hi)
   refine hK.out _ _ ⟨cz_ BK344 0, cz_ BK344 1, cz_ BK344 2⟩ (fun hHeld => ?_)
   clear hK K
   refine nm_ (some 19) ?_
   refine px_ HT_ 11 8 20479 ?_
   refine px_ HT_ 12 20 24575 ?_
   refine px_ HT_ 13 21 32767 ?_
   exact norm_ (by simp only [putAll, Act.put, lstS, lstZ, lstC]) (hCont (gb351) _ ⟨hHeld, (bl_ BK344).out, (bl_ BK345).out, (bl_ BK351).out, GW351.out, GE351.out, NB344_351.out, NB351_344.out, NB345_351.out, NB351_345.out, (bw_ HB).out⟩)
 rintro gb351 w10 ⟨hS_, h0_, h1_, h2_, h3_, h4_, h5_, h6_, h7_, h8_, h9_⟩
 have n0_ : Aside0 (w10.heap[gb344]? = some (.cells #[.int .i64 a1_0, .int .i64 a1_1, .int .i64 a1_2] 25 (0, 0))) := ⟨h0_⟩
 have n1_ : Aside0 (w10.heap[gb345]? = some (.cells #[.int .i64 0, .int .i64 0, .int .i64 0] 25 (0, 0))) := ⟨h1_⟩
 have n2_ : Aside0 (w10.heap[gb351]? = some (.cells #[.int .i64 0, .int .i64 0, .int .i64 0] 25 (0, 0))) := ⟨h2_⟩
 have n3_ : Aside0 (w.heap.size ≤ gb351) := ⟨h3_⟩
 have n4_ : Aside0 (w.heap.size ≤ gb351) := ⟨h4_⟩
 have n5_ : Aside0 (gb344 ≠ gb351) := ⟨h5_⟩
 have n6_ : Aside0 (gb351 ≠ gb344) := ⟨h6_⟩
 have n7_ : Aside0 (gb345 ≠ gb351) := ⟨h7_⟩
 have n8_ : Aside0 (gb351 ≠ gb345) := ⟨h8_⟩
 have n9_ : Aside0 (Below w.heap.size w w10) := ⟨h9_⟩
 clear BK344
 clear BK345
 clear HB
 clear h0_ h1_ h2_ h3_ h4_ h5_ h6_ h7_ h8_ h9_
 have BK344 := n0_
 have BK345 := n1_
 have BK351 := n2_
 have GW351 := n3_
 have GE351 := n4_
 have NB344_351 := n5_
 have NB351_344 := n6_
 have NB345_351 := n7_
 have NB351_345 := n8_
 have HB := n9_
 clear n0_ n1_ n2_ n3_ n4_ n5_ n6_ n7_ n8_ n9_
 have hHeld : w10.cell? ⟨gb344, 0, none⟩ = some (.int .i64 a1_0) ∧ w10.cell? ⟨gb344, 1, none⟩ = some (.int .i64 a1_1) ∧ w10.cell? ⟨gb344, 2, none⟩ = some (.int .i64 a1_2) := hS_
 refine norm_ (a' := ?_) ?_ ?_
 rotate_left
 ·simp only [putAll, Act.put, lstS, lstZ, lstC]
  rfl
 refine on_ HT_ 15 none (bv_ 17 65535) (fun K hK => ?_)
 have hs11 : w10.cell? ⟨gb351, 0, none⟩ = some (.int .i64 0) := (blk_cell BK351.out 0).trans rfl
 have hfs11 := blk_frozen BK351.out 0
 have hns11_0 := NB344_351.out
 have hns11_1 := NB345_351.out
 have hms11_0 := NB351_344.out
 have hms11_1 := NB351_345.out
 have hs12 : w10.cell? ⟨gb351, 1, none⟩ = some (.int .i64 0) := (blk_cell BK351.out 1).trans rfl
 have hfs12 := blk_frozen BK351.out 1
 have hns12_0 := NB344_351.out
 have hns12_1 := NB345_351.out
 have hms12_0 := NB351_344.out
 have hms12_1 := NB351_345.out
 have hs13 : w10.cell? ⟨gb351, 2, none⟩ = some (.int .i64 0) := (blk_cell BK351.out 2).trans rfl
 have hfs13 := blk_frozen BK351.out 2
 have hns13_0 := NB344_351.out
 have hns13_1 := NB345_351.out
 have hms13_0 := NB351_344.out
 have hms13_1 := NB351_345.out
 refine skip_ (w1 := ?_) (by rfl) rfl ?_ ?_
 rotate_left
 ·go_simp
  rfl
 refine hK.out _ _ ⟨(cg_ NB344_351 ((cg_ NB344_351 ((cg_ NB344_351 (hHeld.1)))))), (cg_ NB344_351 ((cg_ NB344_351 ((cg_ NB344_351 (hHeld.2.1)))))), (cg_ NB344_351 ((cg_ NB344_351 ((cg_ NB344_351 (hHeld.2.2))))))⟩ (fun hHeld => ?_)
 clear hK K
 refine px_ HT_ 16 7 131071 ?_
 refine done_ (done_of HT_.out (by kernel_rfl)) ?_
 have hnb14 := NB351_344.out
 have hnc14 := NB344_351.out
 have hnb15 := NB351_345.out
 have hnc15 := NB345_351.out
 obtain ⟨hcz16_0, hcz16_1, hcz16_2, hfz16_0, hfz16_1, hfz16_2⟩ := ch3_ BK351
 have hnb17 := NB345_344.out
 have hnc17 := NB344_345.out
 obtain ⟨hcz18_0, hcz18_1, hcz18_2, hfz18_0, hfz18_1, hfz18_2⟩ := ch3_ BK345
 try go_wp2
 refine bodyPost_ret (results_ct rfl _ _ gb345 25 #[.int .i64 t347, .int .i64 t348, .int .i64 t349] (0, 0) _ rfl (bp_ BK345).out Try.underlying25 rfl (by kernel_rfl)) rfl ?_
 exact ⟨es_, (bw_ HB).out⟩
/-! ### spec_l01Child: function 153 -/
def spec_l01Child.f (k : Nat) (a0 : Int) (a1_0 : Int) (a1_1 : Int) (a1_2 : Int) (a2 : Int) : Option (Int × Int × Int × Bool) := if a1_0 = 6 then (some (0, 0, 0, false)) else ((spec_l01Power.f k a0 a1_2).bind fun t354 => (if a1_0 ≥ 0 then ((spec_l01Power.f k a0 a1_0).bind fun t355 => ((spec_l01Of.f k a0 (wrap64 (a1_1 + (wrap64 ((wrap64 (a2 * t354)) * t355)))) t354 (wrap64 (a1_0 + 1))).bind fun bt356 => (some (bt356.1, bt356.2.1, bt356.2.2.1, bt356.2.2.2)))) else ((spec_l01Power.f k a0 (wrap64 (-a1_0))).bind fun t361 => (if t354 = 0 then (none) else (if t361 = 0 then (none) else ((spec_l01Of.f k a0 (wrap64 ((wrap64 (a1_1 * (wrap64 (Int.tdiv (mx t354 t361) t354)))) + (wrap64 (a2 * (wrap64 (Int.tdiv (mx t354 t361) t361)))))) (mx t354 t361) (wrap64 (a1_0 + 1))).bind fun bt362 => (some (bt362.1, bt362.2.1, bt362.2.2.1, bt362.2.2.2))))))))
theorem spec_l01Child.calls (k : Nat) (a0 : Int) (a1_0 : Int) (a1_1 : Int) (a1_2 : Int) (a2 : Int) (r1 : Int) (r2 : Int) (r3 : Int) (r4 : Bool) (w : World) (h : spec_l01Child.f k a0 a1_0 a1_1 a1_2 a2 = some (r1, r2, r3, r4)) :
  Calls Try.prog 153 #[.int .i64 a0, .agg #[.int .i64 a1_0, .int .i64 a1_1, .int .i64 a1_2], .int .i64 a2] w fun e w' => e = .returned (.tuple #[.agg #[.int .i64 r1, .int .i64 r2, .int .i64 r3], .bool r4]) ∧ Below w.heap.size w w' := by
 have hu25 := Try.underlying25
 have HB := Aside0.mk (Below.refl w.heap.size w)
 have H : (if a1_0 = 6 then (some (0, 0, 0, false)) else ((spec_l01Power.f k a0 a1_2).bind fun t354 => (if a1_0 ≥ 0 then ((spec_l01Power.f k a0 a1_0).bind fun t355 => ((spec_l01Of.f k a0 (wrap64 (a1_1 + (wrap64 ((wrap64 (a2 * t354)) * t355)))) t354 (wrap64 (a1_0 + 1))).bind fun bt356 => (some (bt356.1, bt356.2.1, bt356.2.2.1, bt356.2.2.2)))) else ((spec_l01Power.f k a0 (wrap64 (-a1_0))).bind fun t361 => (if t354 = 0 then (none) else (if t361 = 0 then (none) else ((spec_l01Of.f k a0 (wrap64 ((wrap64 (a1_1 * (wrap64 (Int.tdiv (mx t354 t361) t354)))) + (wrap64 (a2 * (wrap64 (Int.tdiv (mx t354 t361) t361)))))) (mx t354 t361) (wrap64 (a1_0 + 1))).bind fun bt362 => (some (bt362.1, bt362.2.1, bt362.2.2.1, bt362.2.2.2))))))))) = some (r1, r2, r3, r4) := h
 clear h
 by_cases c4 : a1_0 = 6
 ·rw [if_pos c4] at H
  have c4b0 : (a1_0 == 6) = true := beq_iff_eq.mpr c4
  have c4b1 : (a1_0 != 6) = false := bne_eq_false_iff_eq.mpr c4
  clear c4
  simp only [Option.some.injEq, Prod.mk.injEq] at H
  obtain ⟨rfl, rfl, rfl, rfl⟩ := H
  go_enter Try.func153, Try.ntmps153
  go_wp2_with (first | ((refine gd_ 4 ?_); refine bx_ 4 #[.int .i64 a1_0, .int .i64 a1_1, .int .i64 a1_2] 25 ?_; intro gb352 hg w5 BK352 hb; have GW352 := bs_ HB hg; have GE352 := bs_ HB hg; replace HB := bt_ HB hb; clear hb hg) | ((refine gd_ 6 ?_); refine bx_ 6 #[.int .i64 0, .int .i64 0, .int .i64 0] 25 ?_; intro gb353 hg w6 BK353 hb; have GW353 := bs_ HB hg; have GE353 := bs_ HB hg; have NB352_353 := bm_ BK352 hg; have NB353_352 := bn_ BK352 hg; replace BK352 := bb_ BK352 hb; replace HB := bt_ HB hb; clear hb hg; have hnb7 := NB352_353.out; have hnc7 := NB353_352.out; obtain ⟨hcz8_0, hcz8_1, hcz8_2, hfz8_0, hfz8_1, hfz8_2⟩ := ch3_ BK352; obtain ⟨hcz9_0, hcz9_1, hcz9_2, hfz9_0, hfz9_1, hfz9_2⟩ := ch3_ BK353))
  repeat (go_quiet (first | ((refine gd_ 4 ?_); refine bx_ 4 #[.int .i64 a1_0, .int .i64 a1_1, .int .i64 a1_2] 25 ?_; intro gb352 hg w5 BK352 hb; have GW352 := bs_ HB hg; have GE352 := bs_ HB hg; replace HB := bt_ HB hb; clear hb hg) | ((refine gd_ 6 ?_); refine bx_ 6 #[.int .i64 0, .int .i64 0, .int .i64 0] 25 ?_; intro gb353 hg w6 BK353 hb; have GW353 := bs_ HB hg; have GE353 := bs_ HB hg; have NB352_353 := bm_ BK352 hg; have NB353_352 := bn_ BK352 hg; replace BK352 := bb_ BK352 hb; replace HB := bt_ HB hb; clear hb hg; have hnb7 := NB352_353.out; have hnc7 := NB353_352.out; obtain ⟨hcz8_0, hcz8_1, hcz8_2, hfz8_0, hfz8_1, hfz8_2⟩ := ch3_ BK352; obtain ⟨hcz9_0, hcz9_1, hcz9_2, hfz9_0, hfz9_1, hfz9_2⟩ := ch3_ BK353)); try go_wp2_with (first | ((refine gd_ 4 ?_); refine bx_ 4 #[.int .i64 a1_0, .int .i64 a1_1, .int .i64 a1_2] 25 ?_; intro gb352 hg w5 BK352 hb; have GW352 := bs_ HB hg; have GE352 := bs_ HB hg; replace HB := bt_ HB hb; clear hb hg) | ((refine gd_ 6 ?_); refine bx_ 6 #[.int .i64 0, .int .i64 0, .int .i64 0] 25 ?_; intro gb353 hg w6 BK353 hb; have GW353 := bs_ HB hg; have GE353 := bs_ HB hg; have NB352_353 := bm_ BK352 hg; have NB353_352 := bn_ BK352 hg; replace BK352 := bb_ BK352 hb; replace HB := bt_ HB hb; clear hb hg; have hnb7 := NB352_353.out; have hnc7 := NB353_352.out; obtain ⟨hcz8_0, hcz8_1, hcz8_2, hfz8_0, hfz8_1, hfz8_2⟩ := ch3_ BK352; obtain ⟨hcz9_0, hcz9_1, hcz9_2, hfz9_0, hfz9_1, hfz9_2⟩ := ch3_ BK353)))
  refine bodyPost_ret (results_ct rfl _ _ gb353 25 #[.int .i64 0, .int .i64 0, .int .i64 0] (0, 0) _ rfl (bp_ BK353).out Try.underlying25 rfl (by kernel_rfl)) rfl ?_
  exact ⟨es_, (bw_ HB).out⟩
 ·rw [if_neg c4] at H
  have c4b0 : (a1_0 == 6) = false := beq_eq_false_iff_ne.mpr c4
  have c4b1 : (a1_0 != 6) = true := bne_iff_ne.mpr c4
  replace H := ob_ H
  obtain ⟨t354, A100, H⟩ := H
  have A10 := Aside0.mk A100
  clear A100
  by_cases c11 : a1_0 ≥ 0
  ·rw [if_pos c11] at H
   have c11b0 : decide (0 ≤ a1_0) = true := decide_eq_true c11
   clear c11
   replace H := ob_ H
   obtain ⟨t355, A120, H⟩ := H
   have A12 := Aside0.mk A120
   clear A120
   replace H := ob_ H
   obtain ⟨⟨t356, t357, t358, t359⟩, A130, H⟩ := H
   have A13 := Aside0.mk A130
   clear A130
   simp only [Option.some.injEq, Prod.mk.injEq] at H
   obtain ⟨rfl, rfl, rfl, rfl⟩ := H
   go_enter Try.func153, Try.ntmps153
   go_wp2_with (first | ((refine gd_ 4 ?_); refine bx_ 4 #[.int .i64 a1_0, .int .i64 a1_1, .int .i64 a1_2] 25 ?_; intro gb352 hg w14 BK352 hb; have GW352 := bs_ HB hg; have GE352 := bs_ HB hg; replace HB := bt_ HB hb; clear hb hg) | ((refine gd_ 6 ?_); refine bx_ 6 #[.int .i64 0, .int .i64 0, .int .i64 0] 25 ?_; intro gb353 hg w15 BK353 hb; have GW353 := bs_ HB hg; have GE353 := bs_ HB hg; have NB352_353 := bm_ BK352 hg; have NB353_352 := bn_ BK352 hg; replace BK352 := bb_ BK352 hb; replace HB := bt_ HB hb; clear hb hg; have hnb16 := NB352_353.out; have hnc16 := NB353_352.out; obtain ⟨hcz17_0, hcz17_1, hcz17_2, hfz17_0, hfz17_1, hfz17_2⟩ := ch3_ BK352) | (go_at_call 169; (with_reducible refine (spec_l01Power.calls k a0 a1_2 t354 _ A10.out).mono ?_); rintro e w' ⟨rfl, ⟨nd, rfl⟩⟩; (try exact dd_)) | (go_at_call 169; (with_reducible refine (spec_l01Power.calls k a0 a1_0 t355 _ A12.out).mono ?_); rintro e w' ⟨rfl, ⟨nd, rfl⟩⟩; (try exact dd_)) | (go_at_call 170; (with_reducible refine (spec_l01Of.calls k a0 (wrap64 (a1_1 + (wrap64 ((wrap64 (a2 * t354)) * t355)))) t354 (wrap64 (a1_0 + 1)) t356 t357 t358 t359 _ A13.out).mono ?_); rintro e w18 ⟨rfl, hb⟩; replace BK352 := bb_ BK352 hb; replace BK353 := bb_ BK353 hb; replace HB := bt_ HB hb; (try clear hb)) | ((refine gd_ 11 ?_); refine bx_ 11 #[.int .i64 0, .int .i64 0, .int .i64 0] 25 ?_; intro gb360 hg w19 BK360 hb; have GW360 := bs_ HB hg; have GE360 := bs_ HB hg; have NB352_360 := bm_ BK352 hg; have NB360_352 := bn_ BK352 hg; have NB353_360 := bm_ BK353 hg; have NB360_353 := bn_ BK353 hg; replace BK352 := bb_ BK352 hb; replace BK353 := bb_ BK353 hb; replace HB := bt_ HB hb; clear hb hg; have hnb20 := NB360_352.out; have hnc20 := NB352_360.out; have hnb21 := NB360_353.out; have hnc21 := NB353_360.out; obtain ⟨hcz22_0, hcz22_1, hcz22_2, hfz22_0, hfz22_1, hfz22_2⟩ := ch3_ BK360; obtain ⟨hcz23_0, hcz23_1, hcz23_2, hfz23_0, hfz23_1, hfz23_2⟩ := ch3_ BK353))
   repeat (go_quiet (first | ((refine gd_ 4 ?_); refine bx_ 4 #[.int .i64 a1_0, .int .i64 a1_1, .int .i64 a1_2] 25 ?_; intro gb352 hg w14 BK352 hb; have GW352 := bs_ HB hg; have GE352 := bs_ HB hg; replace HB := bt_ HB hb; clear hb hg) | ((refine gd_ 6 ?_); refine bx_ 6 #[.int .i64 0, .int .i64 0, .int .i64 0] 25 ?_; intro gb353 hg w15 BK353 hb; have GW353 := bs_ HB hg; have GE353 := bs_ HB hg; have NB352_353 := bm_ BK352 hg; have NB353_352 := bn_ BK352 hg; replace BK352 := bb_ BK352 hb; replace HB := bt_ HB hb; clear hb hg; have hnb16 := NB352_353.out; have hnc16 := NB353_352.out; obtain ⟨hcz17_0, hcz17_1, hcz17_2, hfz17_0, hfz17_1, hfz17_2⟩ := ch3_ BK352) | (go_at_call 169; (with_reducible refine (spec_l01Power.calls k a0 a1_2 t354 _ A10.out).mono ?_); rintro e w' ⟨rfl, ⟨nd, rfl⟩⟩; (try exact dd_)) | (go_at_call 169; (with_reducible refine (spec_l01Power.calls k a0 a1_0 t355 _ A12.out).mono ?_); rintro e w' ⟨rfl, ⟨nd, rfl⟩⟩; (try exact dd_)) | (go_at_call 170; (with_reducible refine (spec_l01Of.calls k a0 (wrap64 (a1_1 + (wrap64 ((wrap64 (a2 * t354)) * t355)))) t354 (wrap64 (a1_0 + 1)) t356 t357 t358 t359 _ A13.out).mono ?_); rintro e w18 ⟨rfl, hb⟩; replace BK352 := bb_ BK352 hb; replace BK353 := bb_ BK353 hb; replace HB := bt_ HB hb; (try clear hb)) | ((refine gd_ 11 ?_); refine bx_ 11 #[.int .i64 0, .int .i64 0, .int .i64 0] 25 ?_; intro gb360 hg w19 BK360 hb; have GW360 := bs_ HB hg; have GE360 := bs_ HB hg; have NB352_360 := bm_ BK352 hg; have NB360_352 := bn_ BK352 hg; have NB353_360 := bm_ BK353 hg; have NB360_353 := bn_ BK353 hg; replace BK352 := bb_ BK352 hb; replace BK353 := bb_ BK353 hb; replace HB := bt_ HB hb; clear hb hg; have hnb20 := NB360_352.out; have hnc20 := NB352_360.out; have hnb21 := NB360_353.out; have hnc21 := NB353_360.out; obtain ⟨hcz22_0, hcz22_1, hcz22_2, hfz22_0, hfz22_1, hfz22_2⟩ := ch3_ BK360; obtain ⟨hcz23_0, hcz23_1, hcz23_2, hfz23_0, hfz23_1, hfz23_2⟩ := ch3_ BK353)); try go_wp2_with (first | ((refine gd_ 4 ?_); refine bx_ 4 #[.int .i64 a1_0, .int .i64 a1_1, .int .i64 a1_2] 25 ?_; intro gb352 hg w14 BK352 hb; have GW352 := bs_ HB hg; have GE352 := bs_ HB hg; replace HB := bt_ HB hb; clear hb hg) | ((refine gd_ 6 ?_); refine bx_ 6 #[.int .i64 0, .int .i64 0, .int .i64 0] 25 ?_; intro gb353 hg w15 BK353 hb; have GW353 := bs_ HB hg; have GE353 := bs_ HB hg; have NB352_353 := bm_ BK352 hg; have NB353_352 := bn_ BK352 hg; replace BK352 := bb_ BK352 hb; replace HB := bt_ HB hb; clear hb hg; have hnb16 := NB352_353.out; have hnc16 := NB353_352.out; obtain ⟨hcz17_0, hcz17_1, hcz17_2, hfz17_0, hfz17_1, hfz17_2⟩ := ch3_ BK352) | (go_at_call 169; (with_reducible refine (spec_l01Power.calls k a0 a1_2 t354 _ A10.out).mono ?_); rintro e w' ⟨rfl, ⟨nd, rfl⟩⟩; (try exact dd_)) | (go_at_call 169; (with_reducible refine (spec_l01Power.calls k a0 a1_0 t355 _ A12.out).mono ?_); rintro e w' ⟨rfl, ⟨nd, rfl⟩⟩; (try exact dd_)) | (go_at_call 170; (with_reducible refine (spec_l01Of.calls k a0 (wrap64 (a1_1 + (wrap64 ((wrap64 (a2 * t354)) * t355)))) t354 (wrap64 (a1_0 + 1)) t356 t357 t358 t359 _ A13.out).mono ?_); rintro e w18 ⟨rfl, hb⟩; replace BK352 := bb_ BK352 hb; replace BK353 := bb_ BK353 hb; replace HB := bt_ HB hb; (try clear hb)) | ((refine gd_ 11 ?_); refine bx_ 11 #[.int .i64 0, .int .i64 0, .int .i64 0] 25 ?_; intro gb360 hg w19 BK360 hb; have GW360 := bs_ HB hg; have GE360 := bs_ HB hg; have NB352_360 := bm_ BK352 hg; have NB360_352 := bn_ BK352 hg; have NB353_360 := bm_ BK353 hg; have NB360_353 := bn_ BK353 hg; replace BK352 := bb_ BK352 hb; replace BK353 := bb_ BK353 hb; replace HB := bt_ HB hb; clear hb hg; have hnb20 := NB360_352.out; have hnc20 := NB352_360.out; have hnb21 := NB360_353.out; have hnc21 := NB353_360.out; obtain ⟨hcz22_0, hcz22_1, hcz22_2, hfz22_0, hfz22_1, hfz22_2⟩ := ch3_ BK360; obtain ⟨hcz23_0, hcz23_1, hcz23_2, hfz23_0, hfz23_1, hfz23_2⟩ := ch3_ BK353)))
   refine bodyPost_ret (results_ct rfl _ _ gb353 25 #[.int .i64 t356, .int .i64 t357, .int .i64 t358] (0, 0) _ rfl (bp_ BK353).out Try.underlying25 rfl (by kernel_rfl)) rfl ?_
   exact ⟨es_, (bw_ HB).out⟩
  ·rw [if_neg c11] at H
   have c11b0 : decide (0 ≤ a1_0) = false := decide_eq_false c11
   clear c11
   replace H := ob_ H
   obtain ⟨t361, A240, H⟩ := H
   have A24 := Aside0.mk A240
   clear A240
   obtain ⟨ji25, hji25⟩ : ∃ j_ : Int, (mx t354 t361) = j_ := ⟨_, rfl⟩
   replace H : (if t354 = 0 then (none) else (if t361 = 0 then (none) else ((spec_l01Of.f k a0 (wrap64 ((wrap64 (a1_1 * (wrap64 (Int.tdiv (ji25) t354)))) + (wrap64 (a2 * (wrap64 (Int.tdiv (ji25) t361)))))) (ji25) (wrap64 (a1_0 + 1))).bind fun bt362 => (some (bt362.1, bt362.2.1, bt362.2.2.1, bt362.2.2.2))))) = some (r1, r2, r3, r4) := by first | (rw [hji25] at H; exact H) | (simp only [hji25] at H ⊢; exact H)
   (try rw [hji25] at A10)
   (try rw [hji25] at A24)
   have hji25_ : (if t354 < t361 then t361 else t354) = ji25 := hji25
   by_cases c26 : t354 = 0
   ·rw [if_pos c26] at H
    exact absurd H (by simp)
   ·rw [if_neg c26] at H
    have c26b0 : (t354 == 0) = false := beq_eq_false_iff_ne.mpr c26
    have c26b1 : (t354 != 0) = true := bne_iff_ne.mpr c26
    by_cases c27 : t361 = 0
    ·rw [if_pos c27] at H
     exact absurd H (by simp)
    ·rw [if_neg c27] at H
     have c27b0 : (t361 == 0) = false := beq_eq_false_iff_ne.mpr c27
     have c27b1 : (t361 != 0) = true := bne_iff_ne.mpr c27
     replace H := ob_ H
     obtain ⟨⟨t362, t363, t364, t365⟩, A280, H⟩ := H
     have A28 := Aside0.mk A280
     clear A280
     simp only [Option.some.injEq, Prod.mk.injEq] at H
     obtain ⟨rfl, rfl, rfl, rfl⟩ := H
     go_enter Try.func153, Try.ntmps153
     go_wp2_with (first | ((refine gd_ 4 ?_); refine bx_ 4 #[.int .i64 a1_0, .int .i64 a1_1, .int .i64 a1_2] 25 ?_; intro gb352 hg w29 BK352 hb; have GW352 := bs_ HB hg; have GE352 := bs_ HB hg; replace HB := bt_ HB hb; clear hb hg) | ((refine gd_ 6 ?_); refine bx_ 6 #[.int .i64 0, .int .i64 0, .int .i64 0] 25 ?_; intro gb353 hg w30 BK353 hb; have GW353 := bs_ HB hg; have GE353 := bs_ HB hg; have NB352_353 := bm_ BK352 hg; have NB353_352 := bn_ BK352 hg; replace BK352 := bb_ BK352 hb; replace HB := bt_ HB hb; clear hb hg; have hnb31 := NB352_353.out; have hnc31 := NB353_352.out; obtain ⟨hcz32_0, hcz32_1, hcz32_2, hfz32_0, hfz32_1, hfz32_2⟩ := ch3_ BK352) | (go_at_call 169; (with_reducible refine (spec_l01Power.calls k a0 a1_2 t354 _ A10.out).mono ?_); rintro e w' ⟨rfl, ⟨nd, rfl⟩⟩; (try exact dd_)) | (go_at_call 169; (with_reducible refine (spec_l01Power.calls k a0 (wrap64 (-a1_0)) t361 _ A24.out).mono ?_); rintro e w' ⟨rfl, ⟨nd, rfl⟩⟩; (try exact dd_)) | (go_at_call 170; (with_reducible refine (spec_l01Of.calls k a0 (wrap64 ((wrap64 (a1_1 * (wrap64 (Int.tdiv (ji25) t354)))) + (wrap64 (a2 * (wrap64 (Int.tdiv (ji25) t361)))))) ji25 (wrap64 (a1_0 + 1)) t362 t363 t364 t365 _ A28.out).mono ?_); rintro e w33 ⟨rfl, hb⟩; replace BK352 := bb_ BK352 hb; replace BK353 := bb_ BK353 hb; replace HB := bt_ HB hb; (try clear hb)) | ((refine gd_ 11 ?_); refine bx_ 11 #[.int .i64 0, .int .i64 0, .int .i64 0] 25 ?_; intro gb366 hg w34 BK366 hb; have GW366 := bs_ HB hg; have GE366 := bs_ HB hg; have NB352_366 := bm_ BK352 hg; have NB366_352 := bn_ BK352 hg; have NB353_366 := bm_ BK353 hg; have NB366_353 := bn_ BK353 hg; replace BK352 := bb_ BK352 hb; replace BK353 := bb_ BK353 hb; replace HB := bt_ HB hb; clear hb hg; have hnb35 := NB366_352.out; have hnc35 := NB352_366.out; have hnb36 := NB366_353.out; have hnc36 := NB353_366.out; obtain ⟨hcz37_0, hcz37_1, hcz37_2, hfz37_0, hfz37_1, hfz37_2⟩ := ch3_ BK366; obtain ⟨hcz38_0, hcz38_1, hcz38_2, hfz38_0, hfz38_1, hfz38_2⟩ := ch3_ BK353))
     repeat (go_quiet (first | ((refine gd_ 4 ?_); refine bx_ 4 #[.int .i64 a1_0, .int .i64 a1_1, .int .i64 a1_2] 25 ?_; intro gb352 hg w29 BK352 hb; have GW352 := bs_ HB hg; have GE352 := bs_ HB hg; replace HB := bt_ HB hb; clear hb hg) | ((refine gd_ 6 ?_); refine bx_ 6 #[.int .i64 0, .int .i64 0, .int .i64 0] 25 ?_; intro gb353 hg w30 BK353 hb; have GW353 := bs_ HB hg; have GE353 := bs_ HB hg; have NB352_353 := bm_ BK352 hg; have NB353_352 := bn_ BK352 hg; replace BK352 := bb_ BK352 hb; replace HB := bt_ HB hb; clear hb hg; have hnb31 := NB352_353.out; have hnc31 := NB353_352.out; obtain ⟨hcz32_0, hcz32_1, hcz32_2, hfz32_0, hfz32_1, hfz32_2⟩ := ch3_ BK352) | (go_at_call 169; (with_reducible refine (spec_l01Power.calls k a0 a1_2 t354 _ A10.out).mono ?_); rintro e w' ⟨rfl, ⟨nd, rfl⟩⟩; (try exact dd_)) | (go_at_call 169; (with_reducible refine (spec_l01Power.calls k a0 (wrap64 (-a1_0)) t361 _ A24.out).mono ?_); rintro e w' ⟨rfl, ⟨nd, rfl⟩⟩; (try exact dd_)) | (go_at_call 170; (with_reducible refine (spec_l01Of.calls k a0 (wrap64 ((wrap64 (a1_1 * (wrap64 (Int.tdiv (ji25) t354)))) + (wrap64 (a2 * (wrap64 (Int.tdiv (ji25) t361)))))) ji25 (wrap64 (a1_0 + 1)) t362 t363 t364 t365 _ A28.out).mono ?_); rintro e w33 ⟨rfl, hb⟩; replace BK352 := bb_ BK352 hb; replace BK353 := bb_ BK353 hb; replace HB := bt_ HB hb; (try clear hb)) | ((refine gd_ 11 ?_); refine bx_ 11 #[.int .i64 0, .int .i64 0, .int .i64 0] 25 ?_; intro gb366 hg w34 BK366 hb; have GW366 := bs_ HB hg; have GE366 := bs_ HB hg; have NB352_366 := bm_ BK352 hg; have NB366_352 := bn_ BK352 hg; have NB353_366 := bm_ BK353 hg; have NB366_353 := bn_ BK353 hg; replace BK352 := bb_ BK352 hb; replace BK353 := bb_ BK353 hb; replace HB := bt_ HB hb; clear hb hg; have hnb35 := NB366_352.out; have hnc35 := NB352_366.out; have hnb36 := NB366_353.out; have hnc36 := NB353_366.out; obtain ⟨hcz37_0, hcz37_1, hcz37_2, hfz37_0, hfz37_1, hfz37_2⟩ := ch3_ BK366; obtain ⟨hcz38_0, hcz38_1, hcz38_2, hfz38_0, hfz38_1, hfz38_2⟩ := ch3_ BK353)); try go_wp2_with (first | ((refine gd_ 4 ?_); refine bx_ 4 #[.int .i64 a1_0, .int .i64 a1_1, .int .i64 a1_2] 25 ?_; intro gb352 hg w29 BK352 hb; have GW352 := bs_ HB hg; have GE352 := bs_ HB hg; replace HB := bt_ HB hb; clear hb hg) | ((refine gd_ 6 ?_); refine bx_ 6 #[.int .i64 0, .int .i64 0, .int .i64 0] 25 ?_; intro gb353 hg w30 BK353 hb; have GW353 := bs_ HB hg; have GE353 := bs_ HB hg; have NB352_353 := bm_ BK352 hg; have NB353_352 := bn_ BK352 hg; replace BK352 := bb_ BK352 hb; replace HB := bt_ HB hb; clear hb hg; have hnb31 := NB352_353.out; have hnc31 := NB353_352.out; obtain ⟨hcz32_0, hcz32_1, hcz32_2, hfz32_0, hfz32_1, hfz32_2⟩ := ch3_ BK352) | (go_at_call 169; (with_reducible refine (spec_l01Power.calls k a0 a1_2 t354 _ A10.out).mono ?_); rintro e w' ⟨rfl, ⟨nd, rfl⟩⟩; (try exact dd_)) | (go_at_call 169; (with_reducible refine (spec_l01Power.calls k a0 (wrap64 (-a1_0)) t361 _ A24.out).mono ?_); rintro e w' ⟨rfl, ⟨nd, rfl⟩⟩; (try exact dd_)) | (go_at_call 170; (with_reducible refine (spec_l01Of.calls k a0 (wrap64 ((wrap64 (a1_1 * (wrap64 (Int.tdiv (ji25) t354)))) + (wrap64 (a2 * (wrap64 (Int.tdiv (ji25) t361)))))) ji25 (wrap64 (a1_0 + 1)) t362 t363 t364 t365 _ A28.out).mono ?_); rintro e w33 ⟨rfl, hb⟩; replace BK352 := bb_ BK352 hb; replace BK353 := bb_ BK353 hb; replace HB := bt_ HB hb; (try clear hb)) | ((refine gd_ 11 ?_); refine bx_ 11 #[.int .i64 0, .int .i64 0, .int .i64 0] 25 ?_; intro gb366 hg w34 BK366 hb; have GW366 := bs_ HB hg; have GE366 := bs_ HB hg; have NB352_366 := bm_ BK352 hg; have NB366_352 := bn_ BK352 hg; have NB353_366 := bm_ BK353 hg; have NB366_353 := bn_ BK353 hg; replace BK352 := bb_ BK352 hb; replace BK353 := bb_ BK353 hb; replace HB := bt_ HB hb; clear hb hg; have hnb35 := NB366_352.out; have hnc35 := NB352_366.out; have hnb36 := NB366_353.out; have hnc36 := NB353_366.out; obtain ⟨hcz37_0, hcz37_1, hcz37_2, hfz37_0, hfz37_1, hfz37_2⟩ := ch3_ BK366; obtain ⟨hcz38_0, hcz38_1, hcz38_2, hfz38_0, hfz38_1, hfz38_2⟩ := ch3_ BK353)))
     refine bodyPost_ret (results_ct rfl _ _ gb353 25 #[.int .i64 t362, .int .i64 t363, .int .i64 t364] (0, 0) _ rfl (bp_ BK353).out Try.underlying25 rfl (by kernel_rfl)) rfl ?_
     exact ⟨by first | rfl | (simp [errW_none, errW_some] <;> rfl) | (simp only [← hji25]; first | rfl | (simp [errW_none, errW_some] <;> rfl)) | (simp [*, errW_none, errW_some] <;> rfl), (bw_ HB).out⟩
/-! ### spec_l10Step: function 79 -/
def spec_l10Step.f (k : Nat) (a0 : Int) (a1_0 : Int) (a1_1 : Int) (a1_2 : Int) (a2 : Int) : Option (Int × Int × Int × Bool) := if a2 = 117 then ((spec_l01Parent.f k a0 a1_0 a1_1 a1_2).bind fun bt369 => (some (bt369.1, bt369.2.1, bt369.2.2.1, bt369.2.2.2))) else ((spec_l01Child.f k a0 a1_0 a1_1 a1_2 (wrap64 ((wrap64 (a2)) - 48))).bind fun bt374 => (some (bt374.1, bt374.2.1, bt374.2.2.1, bt374.2.2.2)))
theorem spec_l10Step.calls (k : Nat) (a0 : Int) (a1_0 : Int) (a1_1 : Int) (a1_2 : Int) (a2 : Int) (r1 : Int) (r2 : Int) (r3 : Int) (r4 : Bool) (w : World) (h : spec_l10Step.f k a0 a1_0 a1_1 a1_2 a2 = some (r1, r2, r3, r4)) :
  Calls Try.prog 79 #[.int .i64 a0, .agg #[.int .i64 a1_0, .int .i64 a1_1, .int .i64 a1_2], .int .u8 a2] w fun e w' => e = .returned (.tuple #[.agg #[.int .i64 r1, .int .i64 r2, .int .i64 r3], .bool r4]) ∧ Below w.heap.size w w' := by
 have hu25 := Try.underlying25
 have HB := Aside0.mk (Below.refl w.heap.size w)
 have H : (if a2 = 117 then ((spec_l01Parent.f k a0 a1_0 a1_1 a1_2).bind fun bt369 => (some (bt369.1, bt369.2.1, bt369.2.2.1, bt369.2.2.2))) else ((spec_l01Child.f k a0 a1_0 a1_1 a1_2 (wrap64 ((wrap64 (a2)) - 48))).bind fun bt374 => (some (bt374.1, bt374.2.1, bt374.2.2.1, bt374.2.2.2)))) = some (r1, r2, r3, r4) := h
 clear h
 by_cases c4 : a2 = 117
 ·rw [if_pos c4] at H
  have c4b0 : (a2 == 117) = true := beq_iff_eq.mpr c4
  have c4b1 : (a2 != 117) = false := bne_eq_false_iff_eq.mpr c4
  clear c4
  replace H := ob_ H
  obtain ⟨⟨t369, t370, t371, t372⟩, A50, H⟩ := H
  have A5 := Aside0.mk A50
  clear A50
  simp only [Option.some.injEq, Prod.mk.injEq] at H
  obtain ⟨rfl, rfl, rfl, rfl⟩ := H
  go_enter Try.func79, Try.ntmps79
  go_wp2_with (first | ((refine gd_ 4 ?_); refine bx_ 4 #[.int .i64 a1_0, .int .i64 a1_1, .int .i64 a1_2] 25 ?_; intro gb367 hg w6 BK367 hb; have GW367 := bs_ HB hg; have GE367 := bs_ HB hg; replace HB := bt_ HB hb; clear hb hg) | ((refine gd_ 6 ?_); refine bx_ 6 #[.int .i64 0, .int .i64 0, .int .i64 0] 25 ?_; intro gb368 hg w7 BK368 hb; have GW368 := bs_ HB hg; have GE368 := bs_ HB hg; have NB367_368 := bm_ BK367 hg; have NB368_367 := bn_ BK367 hg; replace BK367 := bb_ BK367 hb; replace HB := bt_ HB hb; clear hb hg; have hnb8 := NB367_368.out; have hnc8 := NB368_367.out; obtain ⟨hcz9_0, hcz9_1, hcz9_2, hfz9_0, hfz9_1, hfz9_2⟩ := ch3_ BK367) | ((refine gc_ 152 ?_); refine ge_ 17 Try.func152 #[.int .i64 a0, .agg #[.int .i64 a1_0, .int .i64 a1_1, .int .i64 a1_2]] ?_; (with_reducible refine (spec_l01Parent.calls k a0 a1_0 a1_1 a1_2 t369 t370 t371 t372 _ A5.out).mono ?_); rintro e w10 ⟨rfl, hb⟩; refine ⟨_, rfl, ?_⟩; replace BK367 := bb_ BK367 hb; replace BK368 := bb_ BK368 hb; replace HB := bt_ HB hb; (try clear hb)) | ((refine gd_ 8 ?_); refine bx_ 8 #[.int .i64 0, .int .i64 0, .int .i64 0] 25 ?_; intro gb373 hg w11 BK373 hb; have GW373 := bs_ HB hg; have GE373 := bs_ HB hg; have NB367_373 := bm_ BK367 hg; have NB373_367 := bn_ BK367 hg; have NB368_373 := bm_ BK368 hg; have NB373_368 := bn_ BK368 hg; replace BK367 := bb_ BK367 hb; replace BK368 := bb_ BK368 hb; replace HB := bt_ HB hb; clear hb hg; have hnb12 := NB373_367.out; have hnc12 := NB367_373.out; have hnb13 := NB373_368.out; have hnc13 := NB368_373.out; obtain ⟨hcz14_0, hcz14_1, hcz14_2, hfz14_0, hfz14_1, hfz14_2⟩ := ch3_ BK373; obtain ⟨hcz15_0, hcz15_1, hcz15_2, hfz15_0, hfz15_1, hfz15_2⟩ := ch3_ BK368))
  refine bodyPost_ret (results_ct rfl _ _ gb368 25 #[.int .i64 t369, .int .i64 t370, .int .i64 t371] (0, 0) _ rfl (bp_ BK368).out Try.underlying25 rfl (by kernel_rfl)) rfl ?_
  exact ⟨es_, (bw_ HB).out⟩
 ·rw [if_neg c4] at H
  have c4b0 : (a2 == 117) = false := beq_eq_false_iff_ne.mpr c4
  have c4b1 : (a2 != 117) = true := bne_iff_ne.mpr c4
  replace H := ob_ H
  obtain ⟨⟨t374, t375, t376, t377⟩, A160, H⟩ := H
  have A16 := Aside0.mk A160
  clear A160
  simp only [Option.some.injEq, Prod.mk.injEq] at H
  obtain ⟨rfl, rfl, rfl, rfl⟩ := H
  go_enter Try.func79, Try.ntmps79
  go_wp2_with (first | ((refine gd_ 4 ?_); refine bx_ 4 #[.int .i64 a1_0, .int .i64 a1_1, .int .i64 a1_2] 25 ?_; intro gb367 hg w17 BK367 hb; have GW367 := bs_ HB hg; have GE367 := bs_ HB hg; replace HB := bt_ HB hb; clear hb hg) | ((refine gd_ 6 ?_); refine bx_ 6 #[.int .i64 0, .int .i64 0, .int .i64 0] 25 ?_; intro gb368 hg w18 BK368 hb; have GW368 := bs_ HB hg; have GE368 := bs_ HB hg; have NB367_368 := bm_ BK367 hg; have NB368_367 := bn_ BK367 hg; replace BK367 := bb_ BK367 hb; replace HB := bt_ HB hb; clear hb hg; have hnb19 := NB367_368.out; have hnc19 := NB368_367.out; obtain ⟨hcz20_0, hcz20_1, hcz20_2, hfz20_0, hfz20_1, hfz20_2⟩ := ch3_ BK367) | ((refine gc_ 153 ?_); refine ge_ 28 Try.func153 #[.int .i64 a0, .agg #[.int .i64 a1_0, .int .i64 a1_1, .int .i64 a1_2], .int .i64 (wrap64 ((wrap64 (a2)) - 48))] ?_; (with_reducible refine (spec_l01Child.calls k a0 a1_0 a1_1 a1_2 (wrap64 ((wrap64 (a2)) - 48)) t374 t375 t376 t377 _ A16.out).mono ?_); rintro e w21 ⟨rfl, hb⟩; refine ⟨_, rfl, ?_⟩; replace BK367 := bb_ BK367 hb; replace BK368 := bb_ BK368 hb; replace HB := bt_ HB hb; (try clear hb)) | ((refine gd_ 10 ?_); refine bx_ 10 #[.int .i64 0, .int .i64 0, .int .i64 0] 25 ?_; intro gb378 hg w22 BK378 hb; have GW378 := bs_ HB hg; have GE378 := bs_ HB hg; have NB367_378 := bm_ BK367 hg; have NB378_367 := bn_ BK367 hg; have NB368_378 := bm_ BK368 hg; have NB378_368 := bn_ BK368 hg; replace BK367 := bb_ BK367 hb; replace BK368 := bb_ BK368 hb; replace HB := bt_ HB hb; clear hb hg; have hnb23 := NB378_367.out; have hnc23 := NB367_378.out; have hnb24 := NB378_368.out; have hnc24 := NB368_378.out; obtain ⟨hcz25_0, hcz25_1, hcz25_2, hfz25_0, hfz25_1, hfz25_2⟩ := ch3_ BK378; obtain ⟨hcz26_0, hcz26_1, hcz26_2, hfz26_0, hfz26_1, hfz26_2⟩ := ch3_ BK368))
  refine bodyPost_ret (results_ct rfl _ _ gb368 25 #[.int .i64 t374, .int .i64 t375, .int .i64 t376] (0, 0) _ rfl (bp_ BK368).out Try.underlying25 rfl (by kernel_rfl)) rfl ?_
  exact ⟨es_, (bw_ HB).out⟩
end Go.Proofs.Ytgoeelhiffbjlaa.QR
