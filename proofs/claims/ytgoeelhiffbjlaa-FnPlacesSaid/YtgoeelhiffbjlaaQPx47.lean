import Derived.Test.YtgoeelhiffbjlaaQPx9
import Derived.Test.YtgoeelhiffbjlaaQPx20
import Derived.Test.YtgoeelhiffbjlaaQPx21
namespace Go.Proofs.Ytgoeelhiffbjlaa.QP
set_option maxHeartbeats 8000000
set_option maxRecDepth 100000
open Go.RowKit Go.Proofs.YtgoeelhiffbjlaaW.PrintWords Go.Proofs.YtgoeelhiffbjlaaW.PrintLast Go.Proofs.YtgoeelhiffbjlaaW.PrintMore
attribute [local go_sem] isSome_setCell max2_int min2_int max_two min_two max_three min_three max_four min_four
set_option linter.unusedVariables false
set_option linter.unusedSimpArgs false

/-! ### spec_l07Child: function 122 -/
def spec_l07Child.f (a0 a1 : Int) : Option (Int × Int) := if a1 = 0 then (some (1, wrap64 (a0 + 1))) else (some (wrap64 ((wrap64 (a0 + 2)) + (wrap64 ((wrap64 (a1 - 1)) * a0))), a0))
theorem spec_l07Child.calls (a0 a1 r1 r2 : Int) (w : World) (h : spec_l07Child.f a0 a1 = some (r1, r2)) :
  Calls Try.prog 122 #[.int .i64 a0, .int .i64 a1] w fun e w' => e = .returned (.tuple #[.int .i64 r1, .int .i64 r2]) ∧ Drawn0 w w' := by
 unfold spec_l07Child.f at h
 have H := h
 clear h
 replace H := ie_ H
 rcases H with ⟨c3b0, c3b1, H⟩ | ⟨c3, c3b0, c3b1, H⟩
 ·simp only [Option.some.injEq, Prod.mk.injEq] at H
  obtain ⟨rfl, rfl⟩ := H
  go_enter Try.func122, Try.ntmps122
  go_wp2
  go_ret2
  exact ⟨en_, de_⟩
 simp only [Option.some.injEq, Prod.mk.injEq] at H
 obtain ⟨rfl, rfl⟩ := H
 go_enter Try.func122, Try.ntmps122
 go_wp2
 go_ret2
 exact ⟨en_, de_⟩
/-! ### spec_l01Parent: function 152 -/
def spec_l01Parent.f (k : Nat) (a0 a1_0 a1_1 a1_2 : Int) : Option (Int × Int × Int × Bool) := (spec_l01Power.f k a0 a1_2).bind fun t377 => ((spec_l01Of.f k a0 a1_1 t377 (wrap64 (a1_0 - 1))).bind fun bt378 => (some (bt378.1, bt378.2.1, bt378.2.2.1, bt378.2.2.2)))
def spec_l01Parent.T1 : Bool × List (List Nat × List Nat) := (true, [([], []), ([], []), ([1], [1]), ([], []), ([], []), ([4], [4]), ([3, 5], [3, 5]), ([], []), ([7], [7]), ([8], [8]), ([0, 2, 6, 9, 6], [0, 2, 6, 9]), ([10], [10]), ([11], [11]), ([11], [11]), ([], []), ([14, 12, 10, 0, 1, 2, 3, 4, 5, 6, 7, 8, 9, 10, 11, 12, 14], [12, 14]), ([13, 15, 0, 1, 2, 3, 4, 5, 6, 7, 8, 9, 10, 11, 12, 13, 14, 15], [13])])
def spec_l01Parent.B1 : List Nat := [0, 0, 2, 0, 0, 16, 56, 0, 128, 384, 1023, 2047, 4095, 4095, 0, 24575, 65535]
theorem spec_l01Parent.tab1 : rtab .any (opsOf Try.f152 1) = spec_l01Parent.T1 := by kernel_rfl
theorem spec_l01Parent.bits1 : waitsOk spec_l01Parent.T1.2 spec_l01Parent.B1 = true := by kernel_rfl
theorem spec_l01Parent.calls (k : Nat) (a0 a1_0 a1_1 a1_2 r1 r2 r3 : Int) (r4 : Bool) (w : World) (h : spec_l01Parent.f k a0 a1_0 a1_1 a1_2 = some (r1, r2, r3, r4)) :
  Calls Try.prog 152 #[.int .i64 a0, .agg #[.int .i64 a1_0, .int .i64 a1_1, .int .i64 a1_2]] w fun e w' => e = .returned (.tuple #[.agg #[.int .i64 r1, .int .i64 r2, .int .i64 r3], .bool r4]) ∧ Below w.heap.size w w' := by
 have hu25 := Try.underlying25
 have HB := Aside0.mk (Below.refl w.heap.size w)
 unfold spec_l01Parent.f at h
 have H := h
 clear h
 replace H := oc_ H
 obtain ⟨t377, A3, H⟩ := H
 replace H := oc_ H
 obtain ⟨⟨t378, t379, t380, t381⟩, A4, H⟩ := H
 simp only [Option.some.injEq, Prod.mk.injEq] at H
 obtain ⟨rfl, rfl, rfl, rfl⟩ := H
 go_enter Try.func152, Try.ntmps152
 try go_wp2_with (first | ((refine gd_ 3 ?_); refine by_ 3 #[.int .i64 a1_0, .int .i64 a1_1, .int .i64 a1_2] 25 HB ?_; intro gb375 hg w5 BK375 hb GW375 HB_; replace HB := HB_; clear hb hg) | ((refine gd_ 4 ?_); refine by_ 4 #[.int .i64 0, .int .i64 0, .int .i64 0] 25 HB ?_; intro gb376 hg w6 BK376 hb GW376 HB_; have NB375_376 := bm_ BK375 hg; have NB376_375 := bn_ BK375 hg; replace BK375 := bb_ BK375 hb; replace HB := HB_; clear hb hg))
 replace BK375 := bd_ BK375
 replace BK376 := bd_ BK376
 replace HB := be_ HB
 refine start_ (n := 17) (S := fun w' => w'.cell? ⟨gb375, 0, none⟩ = some (.int .i64 a1_0) ∧ w'.cell? ⟨gb375, 1, none⟩ = some (.int .i64 a1_1) ∧ w'.cell? ⟨gb375, 2, none⟩ = some (.int .i64 a1_2)) (ds := []) (bv_ 17 0) (by kernel_rfl) rfl rfl ⟨cz_ BK375 0, cz_ BK375 1, cz_ BK375 2⟩ (fun hHeld => ?_); refine with_tabW spec_l01Parent.tab1 spec_l01Parent.bits1 (fun HT_ HW_ => ?_)
 generalize w6.drew = w7 at BK375 BK376 HB hHeld ⊢
 refine px_ HT_ 0 9 1 ?_
 refine px_ HT_ 1 10 3 ?_
 refine px_ HT_ 3 12 11 ?_
 refine px_ HT_ 4 13 27 ?_
 refine px_ HT_ 7 16 155 ?_
 refine ta_ HT_ HW_ 2 (some 11) (bv_ 17 159) hHeld ?_ (hy := by rintro w' ⟨s0, s1, s2⟩; go_simp; with_reducible rfl)
 refine ta_ HT_ HW_ 5 (some 14) (bv_ 17 191) hHeld ?_ (hy := by rintro w' ⟨s0, s1, s2⟩; go_simp; with_reducible rfl)
 refine ta_ HT_ HW_ 8 (some 17) (bv_ 17 447) hHeld ?_ (hy := by rintro w' ⟨s0, s1, s2⟩; go_simp; with_reducible rfl)
 refine px_ HT_ 9 18 959 ?_
 refine join_ (σ := Nat) 2 (bv_ 17 32767) (fun s_ => [(15, .int .i64 t377), (19, .tuple #[.agg #[.int .i64 t378, .int .i64 t379, .int .i64 t380], .bool t381]), (6, .pointer (some ⟨s_, 0, none⟩)), (8, .tuple #[.agg #[.int .i64 t378, .int .i64 t379, .int .i64 t380], .bool t381]), (20, .agg #[.int .i64 t378, .int .i64 t379, .int .i64 t380]), (21, .bool t381)]) (fun s_ w' => (w'.cell? ⟨gb375, 0, none⟩ = some (.int .i64 a1_0) ∧ w'.cell? ⟨gb375, 1, none⟩ = some (.int .i64 a1_1) ∧ w'.cell? ⟨gb375, 2, none⟩ = some (.int .i64 a1_2)) ∧ (w'.heap[gb375]? = some (.cells #[.int .i64 a1_0, .int .i64 a1_1, .int .i64 a1_2] 25 (0, 0))) ∧ (w'.heap[gb376]? = some (.cells #[.int .i64 0, .int .i64 0, .int .i64 0] 25 (0, 0))) ∧ (w'.heap[s_]? = some (.cells #[.int .i64 0, .int .i64 0, .int .i64 0] 25 (0, 0))) ∧ (w.heap.size ≤ s_) ∧ (w.heap.size ≤ s_) ∧ (gb375 ≠ s_) ∧ (s_ ≠ gb375) ∧ (gb376 ≠ s_) ∧ (s_ ≠ gb376) ∧ (Below w.heap.size w w')) ?_ ?_
 rotate_left
 ·intro hCont
  refine tw_ HT_ 6 14 (some 15) (some 6) (bv_ 17 1023) (bv_ 17 17343) (fun K hK => ?_) (fun K hK => ?_)
  ·skip
   refine gs_ Try.func169 #[.int .i64 a0, .int .i64 a1_2] ?_
   with_reducible refine (spec_l01Power.calls k a0 a1_2 t377 _ A3.out).mono ?_
   rintro e w' ⟨rfl, ⟨nd, rfl⟩⟩
   refine ⟨_, rfl, ?_⟩
   refine hK.out _ _ ⟨cz_ BK375 0, cz_ BK375 1, cz_ BK375 2⟩ (fun hHeld => ?_)
   clear hK K
   refine nm_ (some 15) ?_
   refine tw_ HT_ 10 14 (some 19) (some 6) (bv_ 17 2047) (bv_ 17 17407) (fun K hK => ?_) (fun K hK => ?_)
   ·skip
    refine gs_ Try.func170 #[.int .i64 a0, .int .i64 a1_1, .int .i64 t377, .int .i64 (wrap64 (a1_0 - 1))] ?_
    with_reducible refine (spec_l01Of.calls k a0 a1_1 t377 (wrap64 (a1_0 - 1)) t378 t379 t380 t381 _ A4.out).mono ?_
    rintro e w8 ⟨rfl, hb⟩
    refine ⟨_, rfl, ?_⟩
    replace BK375 := bb_ BK375 hb
    replace BK376 := bb_ BK376 hb
    replace HB := bt_ HB hb
    try clear hb
    refine hK.out _ _ ⟨cz_ BK375 0, cz_ BK375 1, cz_ BK375 2⟩ (fun hHeld => ?_)
    clear hK K
    refine nm_ (some 19) ?_
    refine px_ HT_ 11 8 4095 ?_
    refine px_ HT_ 12 20 8191 ?_
    refine px_ HT_ 13 21 16383 ?_
    refine on_ HT_ 14 (some 6) (bv_ 17 32767) (fun K hK => ?_)
    refine bz_ 6 #[.int .i64 0, .int .i64 0, .int .i64 0] 25 ?_
    intro gb382 hg w9 BK382 hb
    have GW382 := bs_ HB hg
    have NB375_382 := bm_ BK375 hg
    have NB382_375 := bn_ BK375 hg
    have NB376_382 := bm_ BK376 hg
    have NB382_376 := bn_ BK376 hg
    replace BK375 := bb_ BK375 hb
    replace BK376 := bb_ BK376 hb
    replace HB := bt_ HB hb
    clear hb hg
    refine hK.out _ _ ⟨cz_ BK375 0, cz_ BK375 1, cz_ BK375 2⟩ (fun hHeld => ?_)
    clear hK K
    refine nm_ (some 6) ?_
    exact norm_ (by simp only [putAll, Act.put, lstS, lstZ, lstC]) (hCont (gb382) _ ⟨hHeld, (bl_ BK375).out, (bl_ BK376).out, (bl_ BK382).out, GW382.out, GW382.out, NB375_382.out, NB382_375.out, NB376_382.out, NB382_376.out, (bw_ HB).out⟩)
   skip
   refine bz_ 6 #[.int .i64 0, .int .i64 0, .int .i64 0] 25 ?_
   intro gb382 hg w8 BK382 hb
   have GW382 := bs_ HB hg
   have NB375_382 := bm_ BK375 hg
   have NB382_375 := bn_ BK375 hg
   have NB376_382 := bm_ BK376 hg
   have NB382_376 := bn_ BK376 hg
   replace BK375 := bb_ BK375 hb
   replace BK376 := bb_ BK376 hb
   replace HB := bt_ HB hb
   clear hb hg
   refine hK.out _ _ ⟨cz_ BK375 0, cz_ BK375 1, cz_ BK375 2⟩ (fun hHeld => ?_)
   clear hK K
   refine nm_ (some 6) ?_
   refine on_ HT_ 10 (some 19) (bv_ 17 18431) (fun K hK => ?_)
   refine gs_ Try.func170 #[.int .i64 a0, .int .i64 a1_1, .int .i64 t377, .int .i64 (wrap64 (a1_0 - 1))] ?_
   with_reducible refine (spec_l01Of.calls k a0 a1_1 t377 (wrap64 (a1_0 - 1)) t378 t379 t380 t381 _ A4.out).mono ?_
   rintro e w9 ⟨rfl, hb⟩
   refine ⟨_, rfl, ?_⟩
   replace BK375 := bb_ BK375 hb
   replace BK376 := bb_ BK376 hb
   replace BK382 := bb_ BK382 hb
   replace HB := bt_ HB hb
   try clear hb
   refine hK.out _ _ ⟨cz_ BK375 0, cz_ BK375 1, cz_ BK375 2⟩ (fun hHeld => ?_)
   clear hK K
   refine nm_ (some 19) ?_
   refine px_ HT_ 11 8 20479 ?_
   refine px_ HT_ 12 20 24575 ?_
   refine px_ HT_ 13 21 32767 ?_
   exact norm_ (by simp only [putAll, Act.put, lstS, lstZ, lstC]) (hCont (gb382) _ ⟨hHeld, (bl_ BK375).out, (bl_ BK376).out, (bl_ BK382).out, GW382.out, GW382.out, NB375_382.out, NB382_375.out, NB376_382.out, NB382_376.out, (bw_ HB).out⟩)
  skip
  refine bz_ 6 #[.int .i64 0, .int .i64 0, .int .i64 0] 25 ?_
  intro gb382 hg w8 BK382 hb
  have GW382 := bs_ HB hg
  have NB375_382 := bm_ BK375 hg
  have NB382_375 := bn_ BK375 hg
  have NB376_382 := bm_ BK376 hg
  have NB382_376 := bn_ BK376 hg
  replace BK375 := bb_ BK375 hb
  replace BK376 := bb_ BK376 hb
  replace HB := bt_ HB hb
  clear hb hg
  refine hK.out _ _ ⟨cz_ BK375 0, cz_ BK375 1, cz_ BK375 2⟩ (fun hHeld => ?_)
  clear hK K
  refine nm_ (some 6) ?_
  refine on_ HT_ 6 (some 15) (bv_ 17 17407) (fun K hK => ?_)
  refine gs_ Try.func169 #[.int .i64 a0, .int .i64 a1_2] ?_
  with_reducible refine (spec_l01Power.calls k a0 a1_2 t377 _ A3.out).mono ?_
  rintro e w' ⟨rfl, ⟨nd, rfl⟩⟩
  refine ⟨_, rfl, ?_⟩
  refine hK.out _ _ ⟨cz_ BK375 0, cz_ BK375 1, cz_ BK375 2⟩ (fun hHeld => ?_)
  clear hK K
  refine nm_ (some 15) ?_
  refine on_ HT_ 10 (some 19) (bv_ 17 18431) (fun K hK => ?_)
  refine gs_ Try.func170 #[.int .i64 a0, .int .i64 a1_1, .int .i64 t377, .int .i64 (wrap64 (a1_0 - 1))] ?_
  with_reducible refine (spec_l01Of.calls k a0 a1_1 t377 (wrap64 (a1_0 - 1)) t378 t379 t380 t381 _ A4.out).mono ?_
  rintro e w9 ⟨rfl, hb⟩
  refine ⟨_, rfl, ?_⟩
  replace BK375 := bb_ BK375 hb
  replace BK376 := bb_ BK376 hb
  replace BK382 := bb_ BK382 hb
  replace HB := bt_ HB hb
  try clear hb
  refine hK.out _ _ ⟨cz_ BK375 0, cz_ BK375 1, cz_ BK375 2⟩ (fun hHeld => ?_)
  clear hK K
  refine nm_ (some 19) ?_
  refine px_ HT_ 11 8 20479 ?_
  refine px_ HT_ 12 20 24575 ?_
  refine px_ HT_ 13 21 32767 ?_
  exact norm_ (by simp only [putAll, Act.put, lstS, lstZ, lstC]) (hCont (gb382) _ ⟨hHeld, (bl_ BK375).out, (bl_ BK376).out, (bl_ BK382).out, GW382.out, GW382.out, NB375_382.out, NB382_375.out, NB376_382.out, NB382_376.out, (bw_ HB).out⟩)
 rintro gb382 w10 ⟨hS_, h0_, h1_, h2_, h3_, h4_, h5_, h6_, h7_, h8_, h9_⟩
 clear BK375 BK376 HB
 have BK375 := Aside0.mk h0_
 have BK376 := Aside0.mk h1_
 have BK382 := Aside0.mk h2_
 have GW382 := Aside0.mk h3_
 have GW382 := Aside0.mk h4_
 have NB375_382 := Aside0.mk h5_
 have NB382_375 := Aside0.mk h6_
 have NB376_382 := Aside0.mk h7_
 have NB382_376 := Aside0.mk h8_
 have HB := Aside0.mk h9_
 clear h0_ h1_ h2_ h3_ h4_ h5_ h6_ h7_ h8_ h9_
 have hHeld : w10.cell? ⟨gb375, 0, none⟩ = some (.int .i64 a1_0) ∧ w10.cell? ⟨gb375, 1, none⟩ = some (.int .i64 a1_1) ∧ w10.cell? ⟨gb375, 2, none⟩ = some (.int .i64 a1_2) := hS_
 refine norm_ (a' := ?_) ?_ ?_
 rotate_left
 ·simp only [putAll, Act.put, lstS, lstZ, lstC]
  rfl
 refine on_ HT_ 15 none (bv_ 17 65535) (fun K hK => ?_)
 have hs11 : w10.cell? ⟨gb382, 0, none⟩ = some (.int .i64 0) := (blk_cell BK382.out 0).trans rfl
 have hfs11 := blk_frozen BK382.out 0
 have hns11_0 := NB375_382.out
 have hns11_1 := NB376_382.out
 have hms11_0 := NB382_375.out
 have hms11_1 := NB382_376.out
 have hs12 : w10.cell? ⟨gb382, 1, none⟩ = some (.int .i64 0) := (blk_cell BK382.out 1).trans rfl
 have hfs12 := blk_frozen BK382.out 1
 have hns12_0 := NB375_382.out
 have hns12_1 := NB376_382.out
 have hms12_0 := NB382_375.out
 have hms12_1 := NB382_376.out
 have hs13 : w10.cell? ⟨gb382, 2, none⟩ = some (.int .i64 0) := (blk_cell BK382.out 2).trans rfl
 have hfs13 := blk_frozen BK382.out 2
 have hns13_0 := NB375_382.out
 have hns13_1 := NB376_382.out
 have hms13_0 := NB382_375.out
 have hms13_1 := NB382_376.out
 refine skip_ (w1 := ?_) (by rfl) rfl ?_ ?_
 rotate_left
 ·go_simp
  rfl
 refine hK.out _ _ ⟨(cg_ NB375_382 ((cg_ NB375_382 ((cg_ NB375_382 (hHeld.1)))))), (cg_ NB375_382 ((cg_ NB375_382 ((cg_ NB375_382 (hHeld.2.1)))))), (cg_ NB375_382 ((cg_ NB375_382 ((cg_ NB375_382 (hHeld.2.2))))))⟩ (fun hHeld => ?_)
 clear hK K
 refine px_ HT_ 16 7 131071 ?_
 refine done_ (done_of HT_.out (by kernel_rfl)) ?_
 have hnb14 := NB382_375.out
 have hnc14 := NB375_382.out
 have hnb15 := NB382_376.out
 have hnc15 := NB376_382.out
 obtain ⟨hcz16_0, hcz16_1, hcz16_2, hfz16_0, hfz16_1, hfz16_2⟩ := ch3_ BK382
 have hnb17 := NB376_375.out
 have hnc17 := NB375_376.out
 obtain ⟨hcz18_0, hcz18_1, hcz18_2, hfz18_0, hfz18_1, hfz18_2⟩ := ch3_ BK376
 try go_wp2
 refine bodyPost_ret (results_ct rfl _ _ gb376 25 #[.int .i64 t378, .int .i64 t379, .int .i64 t380] (0, 0) _ rfl (bp_ BK376).out Try.underlying25 rfl (by kernel_rfl)) rfl ?_
 exact ⟨es_, (bw_ HB).out⟩
/-! ### spec_l01Child: function 153 -/
def spec_l01Child.f (k : Nat) (a0 a1_0 a1_1 a1_2 a2 : Int) : Option (Int × Int × Int × Bool) := if a1_0 = 6 then (some (0, 0, 0, false)) else ((spec_l01Power.f k a0 a1_2).bind fun t385 => (if a1_0 ≥ 0 then ((spec_l01Power.f k a0 a1_0).bind fun t386 => ((spec_l01Of.f k a0 (wrap64 (a1_1 + (wrap64 ((wrap64 (a2 * t385)) * t386)))) t385 (wrap64 (a1_0 + 1))).bind fun bt387 => (some (bt387.1, bt387.2.1, bt387.2.2.1, bt387.2.2.2)))) else ((spec_l01Power.f k a0 (wrap64 (-a1_0))).bind fun t392 => (if t385 = 0 then (none) else (if t392 = 0 then (none) else ((spec_l01Of.f k a0 (wrap64 ((wrap64 (a1_1 * (wrap64 (Int.tdiv (mx t385 t392) t385)))) + (wrap64 (a2 * (wrap64 (Int.tdiv (mx t385 t392) t392)))))) (mx t385 t392) (wrap64 (a1_0 + 1))).bind fun bt393 => (some (bt393.1, bt393.2.1, bt393.2.2.1, bt393.2.2.2))))))))
theorem spec_l01Child.calls (k : Nat) (a0 a1_0 a1_1 a1_2 a2 r1 r2 r3 : Int) (r4 : Bool) (w : World) (h : spec_l01Child.f k a0 a1_0 a1_1 a1_2 a2 = some (r1, r2, r3, r4)) :
  Calls Try.prog 153 #[.int .i64 a0, .agg #[.int .i64 a1_0, .int .i64 a1_1, .int .i64 a1_2], .int .i64 a2] w fun e w' => e = .returned (.tuple #[.agg #[.int .i64 r1, .int .i64 r2, .int .i64 r3], .bool r4]) ∧ Below w.heap.size w w' := by
 have hu25 := Try.underlying25
 have HB := Aside0.mk (Below.refl w.heap.size w)
 unfold spec_l01Child.f at h
 have H := h
 clear h
 replace H := ie_ H
 rcases H with ⟨c4b0, c4b1, H⟩ | ⟨c4, c4b0, c4b1, H⟩
 ·simp only [Option.some.injEq, Prod.mk.injEq] at H
  obtain ⟨rfl, rfl, rfl, rfl⟩ := H
  go_enter Try.func153, Try.ntmps153
  go_wp2_with (first | ((refine gd_ 4 ?_); refine by_ 4 #[.int .i64 a1_0, .int .i64 a1_1, .int .i64 a1_2] 25 HB ?_; intro gb383 hg w5 BK383 hb GW383 HB_; replace HB := HB_; clear hb hg) | ((refine gd_ 6 ?_); refine by_ 6 #[.int .i64 0, .int .i64 0, .int .i64 0] 25 HB ?_; intro gb384 hg w6 BK384 hb GW384 HB_; have NB383_384 := bm_ BK383 hg; have NB384_383 := bn_ BK383 hg; replace BK383 := bb_ BK383 hb; replace HB := HB_; clear hb hg; have hnb7 := NB383_384.out; have hnc7 := NB384_383.out; obtain ⟨hcz8_0, hcz8_1, hcz8_2, hfz8_0, hfz8_1, hfz8_2⟩ := ch3_ BK383; obtain ⟨hcz9_0, hcz9_1, hcz9_2, hfz9_0, hfz9_1, hfz9_2⟩ := ch3_ BK384))
  repeat (go_quiet (first | ((refine gd_ 4 ?_); refine by_ 4 #[.int .i64 a1_0, .int .i64 a1_1, .int .i64 a1_2] 25 HB ?_; intro gb383 hg w5 BK383 hb GW383 HB_; replace HB := HB_; clear hb hg) | ((refine gd_ 6 ?_); refine by_ 6 #[.int .i64 0, .int .i64 0, .int .i64 0] 25 HB ?_; intro gb384 hg w6 BK384 hb GW384 HB_; have NB383_384 := bm_ BK383 hg; have NB384_383 := bn_ BK383 hg; replace BK383 := bb_ BK383 hb; replace HB := HB_; clear hb hg; have hnb7 := NB383_384.out; have hnc7 := NB384_383.out; obtain ⟨hcz8_0, hcz8_1, hcz8_2, hfz8_0, hfz8_1, hfz8_2⟩ := ch3_ BK383; obtain ⟨hcz9_0, hcz9_1, hcz9_2, hfz9_0, hfz9_1, hfz9_2⟩ := ch3_ BK384)); try go_wp2_with (first | ((refine gd_ 4 ?_); refine by_ 4 #[.int .i64 a1_0, .int .i64 a1_1, .int .i64 a1_2] 25 HB ?_; intro gb383 hg w5 BK383 hb GW383 HB_; replace HB := HB_; clear hb hg) | ((refine gd_ 6 ?_); refine by_ 6 #[.int .i64 0, .int .i64 0, .int .i64 0] 25 HB ?_; intro gb384 hg w6 BK384 hb GW384 HB_; have NB383_384 := bm_ BK383 hg; have NB384_383 := bn_ BK383 hg; replace BK383 := bb_ BK383 hb; replace HB := HB_; clear hb hg; have hnb7 := NB383_384.out; have hnc7 := NB384_383.out; obtain ⟨hcz8_0, hcz8_1, hcz8_2, hfz8_0, hfz8_1, hfz8_2⟩ := ch3_ BK383; obtain ⟨hcz9_0, hcz9_1, hcz9_2, hfz9_0, hfz9_1, hfz9_2⟩ := ch3_ BK384)))
  refine bodyPost_ret (results_ct rfl _ _ gb384 25 #[.int .i64 0, .int .i64 0, .int .i64 0] (0, 0) _ rfl (bp_ BK384).out Try.underlying25 rfl (by kernel_rfl)) rfl ?_
  exact ⟨es_, (bw_ HB).out⟩
 replace H := oc_ H
 obtain ⟨t385, A10, H⟩ := H
 replace H := in_ H
 rcases H with ⟨c11b0, H⟩ | ⟨c11b0, H⟩
 ·replace H := oc_ H
  obtain ⟨t386, A12, H⟩ := H
  replace H := oc_ H
  obtain ⟨⟨t387, t388, t389, t390⟩, A13, H⟩ := H
  simp only [Option.some.injEq, Prod.mk.injEq] at H
  obtain ⟨rfl, rfl, rfl, rfl⟩ := H
  go_enter Try.func153, Try.ntmps153
  go_wp2_with (first | ((refine gd_ 4 ?_); refine by_ 4 #[.int .i64 a1_0, .int .i64 a1_1, .int .i64 a1_2] 25 HB ?_; intro gb383 hg w14 BK383 hb GW383 HB_; replace HB := HB_; clear hb hg) | ((refine gd_ 6 ?_); refine by_ 6 #[.int .i64 0, .int .i64 0, .int .i64 0] 25 HB ?_; intro gb384 hg w15 BK384 hb GW384 HB_; have NB383_384 := bm_ BK383 hg; have NB384_383 := bn_ BK383 hg; replace BK383 := bb_ BK383 hb; replace HB := HB_; clear hb hg; have hnb16 := NB383_384.out; have hnc16 := NB384_383.out; obtain ⟨hcz17_0, hcz17_1, hcz17_2, hfz17_0, hfz17_1, hfz17_2⟩ := ch3_ BK383) | (go_at_call 169; (with_reducible refine (spec_l01Power.calls k a0 a1_2 t385 _ A10.out).mono ?_); rintro e w' ⟨rfl, ⟨nd, rfl⟩⟩; (try exact dd_)) | (go_at_call 169; (with_reducible refine (spec_l01Power.calls k a0 a1_0 t386 _ A12.out).mono ?_); rintro e w' ⟨rfl, ⟨nd, rfl⟩⟩; (try exact dd_)) | (go_at_call 170; (with_reducible refine (spec_l01Of.calls k a0 (wrap64 (a1_1 + (wrap64 ((wrap64 (a2 * t385)) * t386)))) t385 (wrap64 (a1_0 + 1)) t387 t388 t389 t390 _ A13.out).mono ?_); rintro e w18 ⟨rfl, hb⟩; replace BK383 := bb_ BK383 hb; replace BK384 := bb_ BK384 hb; replace HB := bt_ HB hb; (try clear hb)) | ((refine gd_ 11 ?_); refine by_ 11 #[.int .i64 0, .int .i64 0, .int .i64 0] 25 HB ?_; intro gb391 hg w19 BK391 hb GW391 HB_; have NB383_391 := bm_ BK383 hg; have NB391_383 := bn_ BK383 hg; have NB384_391 := bm_ BK384 hg; have NB391_384 := bn_ BK384 hg; replace BK383 := bb_ BK383 hb; replace BK384 := bb_ BK384 hb; replace HB := HB_; clear hb hg; have hnb20 := NB391_383.out; have hnc20 := NB383_391.out; have hnb21 := NB391_384.out; have hnc21 := NB384_391.out; obtain ⟨hcz22_0, hcz22_1, hcz22_2, hfz22_0, hfz22_1, hfz22_2⟩ := ch3_ BK391; obtain ⟨hcz23_0, hcz23_1, hcz23_2, hfz23_0, hfz23_1, hfz23_2⟩ := ch3_ BK384))
  repeat (go_quiet (first | ((refine gd_ 4 ?_); refine by_ 4 #[.int .i64 a1_0, .int .i64 a1_1, .int .i64 a1_2] 25 HB ?_; intro gb383 hg w14 BK383 hb GW383 HB_; replace HB := HB_; clear hb hg) | ((refine gd_ 6 ?_); refine by_ 6 #[.int .i64 0, .int .i64 0, .int .i64 0] 25 HB ?_; intro gb384 hg w15 BK384 hb GW384 HB_; have NB383_384 := bm_ BK383 hg; have NB384_383 := bn_ BK383 hg; replace BK383 := bb_ BK383 hb; replace HB := HB_; clear hb hg; have hnb16 := NB383_384.out; have hnc16 := NB384_383.out; obtain ⟨hcz17_0, hcz17_1, hcz17_2, hfz17_0, hfz17_1, hfz17_2⟩ := ch3_ BK383) | (go_at_call 169; (with_reducible refine (spec_l01Power.calls k a0 a1_2 t385 _ A10.out).mono ?_); rintro e w' ⟨rfl, ⟨nd, rfl⟩⟩; (try exact dd_)) | (go_at_call 169; (with_reducible refine (spec_l01Power.calls k a0 a1_0 t386 _ A12.out).mono ?_); rintro e w' ⟨rfl, ⟨nd, rfl⟩⟩; (try exact dd_)) | (go_at_call 170; (with_reducible refine (spec_l01Of.calls k a0 (wrap64 (a1_1 + (wrap64 ((wrap64 (a2 * t385)) * t386)))) t385 (wrap64 (a1_0 + 1)) t387 t388 t389 t390 _ A13.out).mono ?_); rintro e w18 ⟨rfl, hb⟩; replace BK383 := bb_ BK383 hb; replace BK384 := bb_ BK384 hb; replace HB := bt_ HB hb; (try clear hb)) | ((refine gd_ 11 ?_); refine by_ 11 #[.int .i64 0, .int .i64 0, .int .i64 0] 25 HB ?_; intro gb391 hg w19 BK391 hb GW391 HB_; have NB383_391 := bm_ BK383 hg; have NB391_383 := bn_ BK383 hg; have NB384_391 := bm_ BK384 hg; have NB391_384 := bn_ BK384 hg; replace BK383 := bb_ BK383 hb; replace BK384 := bb_ BK384 hb; replace HB := HB_; clear hb hg; have hnb20 := NB391_383.out; have hnc20 := NB383_391.out; have hnb21 := NB391_384.out; have hnc21 := NB384_391.out; obtain ⟨hcz22_0, hcz22_1, hcz22_2, hfz22_0, hfz22_1, hfz22_2⟩ := ch3_ BK391; obtain ⟨hcz23_0, hcz23_1, hcz23_2, hfz23_0, hfz23_1, hfz23_2⟩ := ch3_ BK384)); try go_wp2_with (first | ((refine gd_ 4 ?_); refine by_ 4 #[.int .i64 a1_0, .int .i64 a1_1, .int .i64 a1_2] 25 HB ?_; intro gb383 hg w14 BK383 hb GW383 HB_; replace HB := HB_; clear hb hg) | ((refine gd_ 6 ?_); refine by_ 6 #[.int .i64 0, .int .i64 0, .int .i64 0] 25 HB ?_; intro gb384 hg w15 BK384 hb GW384 HB_; have NB383_384 := bm_ BK383 hg; have NB384_383 := bn_ BK383 hg; replace BK383 := bb_ BK383 hb; replace HB := HB_; clear hb hg; have hnb16 := NB383_384.out; have hnc16 := NB384_383.out; obtain ⟨hcz17_0, hcz17_1, hcz17_2, hfz17_0, hfz17_1, hfz17_2⟩ := ch3_ BK383) | (go_at_call 169; (with_reducible refine (spec_l01Power.calls k a0 a1_2 t385 _ A10.out).mono ?_); rintro e w' ⟨rfl, ⟨nd, rfl⟩⟩; (try exact dd_)) | (go_at_call 169; (with_reducible refine (spec_l01Power.calls k a0 a1_0 t386 _ A12.out).mono ?_); rintro e w' ⟨rfl, ⟨nd, rfl⟩⟩; (try exact dd_)) | (go_at_call 170; (with_reducible refine (spec_l01Of.calls k a0 (wrap64 (a1_1 + (wrap64 ((wrap64 (a2 * t385)) * t386)))) t385 (wrap64 (a1_0 + 1)) t387 t388 t389 t390 _ A13.out).mono ?_); rintro e w18 ⟨rfl, hb⟩; replace BK383 := bb_ BK383 hb; replace BK384 := bb_ BK384 hb; replace HB := bt_ HB hb; (try clear hb)) | ((refine gd_ 11 ?_); refine by_ 11 #[.int .i64 0, .int .i64 0, .int .i64 0] 25 HB ?_; intro gb391 hg w19 BK391 hb GW391 HB_; have NB383_391 := bm_ BK383 hg; have NB391_383 := bn_ BK383 hg; have NB384_391 := bm_ BK384 hg; have NB391_384 := bn_ BK384 hg; replace BK383 := bb_ BK383 hb; replace BK384 := bb_ BK384 hb; replace HB := HB_; clear hb hg; have hnb20 := NB391_383.out; have hnc20 := NB383_391.out; have hnb21 := NB391_384.out; have hnc21 := NB384_391.out; obtain ⟨hcz22_0, hcz22_1, hcz22_2, hfz22_0, hfz22_1, hfz22_2⟩ := ch3_ BK391; obtain ⟨hcz23_0, hcz23_1, hcz23_2, hfz23_0, hfz23_1, hfz23_2⟩ := ch3_ BK384)))
  refine bodyPost_ret (results_ct rfl _ _ gb384 25 #[.int .i64 t387, .int .i64 t388, .int .i64 t389] (0, 0) _ rfl (bp_ BK384).out Try.underlying25 rfl (by kernel_rfl)) rfl ?_
  exact ⟨es_, (bw_ HB).out⟩
 replace H := oc_ H
 obtain ⟨t392, A24, H⟩ := H
 obtain ⟨ji25, hji25⟩ : ∃ j_ : Int, (mx t385 t392) = j_ := ⟨_, rfl⟩
 replace H : (if t385 = 0 then (none) else (if t392 = 0 then (none) else ((spec_l01Of.f k a0 (wrap64 ((wrap64 (a1_1 * (wrap64 (Int.tdiv (ji25) t385)))) + (wrap64 (a2 * (wrap64 (Int.tdiv (ji25) t392)))))) (ji25) (wrap64 (a1_0 + 1))).bind fun bt393 => (some (bt393.1, bt393.2.1, bt393.2.2.1, bt393.2.2.2))))) = some (r1, r2, r3, r4) := by first | (rw [hji25] at H; exact H) | (simp only [hji25] at H ⊢; exact H)
 (try rw [hji25] at A10)
 (try rw [hji25] at A24)
 have hji25_ : (if t385 < t392 then t392 else t385) = ji25 := hji25
 replace H := ief_ H
 obtain ⟨c26, c26b0, c26b1, H⟩ := H
 replace H := ief_ H
 obtain ⟨c27, c27b0, c27b1, H⟩ := H
 replace H := oc_ H
 obtain ⟨⟨t393, t394, t395, t396⟩, A28, H⟩ := H
 simp only [Option.some.injEq, Prod.mk.injEq] at H
 obtain ⟨rfl, rfl, rfl, rfl⟩ := H
 go_enter Try.func153, Try.ntmps153
 go_wp2_with (first | ((refine gd_ 4 ?_); refine by_ 4 #[.int .i64 a1_0, .int .i64 a1_1, .int .i64 a1_2] 25 HB ?_; intro gb383 hg w29 BK383 hb GW383 HB_; replace HB := HB_; clear hb hg) | ((refine gd_ 6 ?_); refine by_ 6 #[.int .i64 0, .int .i64 0, .int .i64 0] 25 HB ?_; intro gb384 hg w30 BK384 hb GW384 HB_; have NB383_384 := bm_ BK383 hg; have NB384_383 := bn_ BK383 hg; replace BK383 := bb_ BK383 hb; replace HB := HB_; clear hb hg; have hnb31 := NB383_384.out; have hnc31 := NB384_383.out; obtain ⟨hcz32_0, hcz32_1, hcz32_2, hfz32_0, hfz32_1, hfz32_2⟩ := ch3_ BK383) | (go_at_call 169; (with_reducible refine (spec_l01Power.calls k a0 a1_2 t385 _ A10.out).mono ?_); rintro e w' ⟨rfl, ⟨nd, rfl⟩⟩; (try exact dd_)) | (go_at_call 169; (with_reducible refine (spec_l01Power.calls k a0 (wrap64 (-a1_0)) t392 _ A24.out).mono ?_); rintro e w' ⟨rfl, ⟨nd, rfl⟩⟩; (try exact dd_)) | (go_at_call 170; (with_reducible refine (spec_l01Of.calls k a0 (wrap64 ((wrap64 (a1_1 * (wrap64 (Int.tdiv (ji25) t385)))) + (wrap64 (a2 * (wrap64 (Int.tdiv (ji25) t392)))))) ji25 (wrap64 (a1_0 + 1)) t393 t394 t395 t396 _ A28.out).mono ?_); rintro e w33 ⟨rfl, hb⟩; replace BK383 := bb_ BK383 hb; replace BK384 := bb_ BK384 hb; replace HB := bt_ HB hb; (try clear hb)) | ((refine gd_ 11 ?_); refine by_ 11 #[.int .i64 0, .int .i64 0, .int .i64 0] 25 HB ?_; intro gb397 hg w34 BK397 hb GW397 HB_; have NB383_397 := bm_ BK383 hg; have NB397_383 := bn_ BK383 hg; have NB384_397 := bm_ BK384 hg; have NB397_384 := bn_ BK384 hg; replace BK383 := bb_ BK383 hb; replace BK384 := bb_ BK384 hb; replace HB := HB_; clear hb hg; have hnb35 := NB397_383.out; have hnc35 := NB383_397.out; have hnb36 := NB397_384.out; have hnc36 := NB384_397.out; obtain ⟨hcz37_0, hcz37_1, hcz37_2, hfz37_0, hfz37_1, hfz37_2⟩ := ch3_ BK397; obtain ⟨hcz38_0, hcz38_1, hcz38_2, hfz38_0, hfz38_1, hfz38_2⟩ := ch3_ BK384))
 repeat (go_quiet (first | ((refine gd_ 4 ?_); refine by_ 4 #[.int .i64 a1_0, .int .i64 a1_1, .int .i64 a1_2] 25 HB ?_; intro gb383 hg w29 BK383 hb GW383 HB_; replace HB := HB_; clear hb hg) | ((refine gd_ 6 ?_); refine by_ 6 #[.int .i64 0, .int .i64 0, .int .i64 0] 25 HB ?_; intro gb384 hg w30 BK384 hb GW384 HB_; have NB383_384 := bm_ BK383 hg; have NB384_383 := bn_ BK383 hg; replace BK383 := bb_ BK383 hb; replace HB := HB_; clear hb hg; have hnb31 := NB383_384.out; have hnc31 := NB384_383.out; obtain ⟨hcz32_0, hcz32_1, hcz32_2, hfz32_0, hfz32_1, hfz32_2⟩ := ch3_ BK383) | (go_at_call 169; (with_reducible refine (spec_l01Power.calls k a0 a1_2 t385 _ A10.out).mono ?_); rintro e w' ⟨rfl, ⟨nd, rfl⟩⟩; (try exact dd_)) | (go_at_call 169; (with_reducible refine (spec_l01Power.calls k a0 (wrap64 (-a1_0)) t392 _ A24.out).mono ?_); rintro e w' ⟨rfl, ⟨nd, rfl⟩⟩; (try exact dd_)) | (go_at_call 170; (with_reducible refine (spec_l01Of.calls k a0 (wrap64 ((wrap64 (a1_1 * (wrap64 (Int.tdiv (ji25) t385)))) + (wrap64 (a2 * (wrap64 (Int.tdiv (ji25) t392)))))) ji25 (wrap64 (a1_0 + 1)) t393 t394 t395 t396 _ A28.out).mono ?_); rintro e w33 ⟨rfl, hb⟩; replace BK383 := bb_ BK383 hb; replace BK384 := bb_ BK384 hb; replace HB := bt_ HB hb; (try clear hb)) | ((refine gd_ 11 ?_); refine by_ 11 #[.int .i64 0, .int .i64 0, .int .i64 0] 25 HB ?_; intro gb397 hg w34 BK397 hb GW397 HB_; have NB383_397 := bm_ BK383 hg; have NB397_383 := bn_ BK383 hg; have NB384_397 := bm_ BK384 hg; have NB397_384 := bn_ BK384 hg; replace BK383 := bb_ BK383 hb; replace BK384 := bb_ BK384 hb; replace HB := HB_; clear hb hg; have hnb35 := NB397_383.out; have hnc35 := NB383_397.out; have hnb36 := NB397_384.out; have hnc36 := NB384_397.out; obtain ⟨hcz37_0, hcz37_1, hcz37_2, hfz37_0, hfz37_1, hfz37_2⟩ := ch3_ BK397; obtain ⟨hcz38_0, hcz38_1, hcz38_2, hfz38_0, hfz38_1, hfz38_2⟩ := ch3_ BK384)); try go_wp2_with (first | ((refine gd_ 4 ?_); refine by_ 4 #[.int .i64 a1_0, .int .i64 a1_1, .int .i64 a1_2] 25 HB ?_; intro gb383 hg w29 BK383 hb GW383 HB_; replace HB := HB_; clear hb hg) | ((refine gd_ 6 ?_); refine by_ 6 #[.int .i64 0, .int .i64 0, .int .i64 0] 25 HB ?_; intro gb384 hg w30 BK384 hb GW384 HB_; have NB383_384 := bm_ BK383 hg; have NB384_383 := bn_ BK383 hg; replace BK383 := bb_ BK383 hb; replace HB := HB_; clear hb hg; have hnb31 := NB383_384.out; have hnc31 := NB384_383.out; obtain ⟨hcz32_0, hcz32_1, hcz32_2, hfz32_0, hfz32_1, hfz32_2⟩ := ch3_ BK383) | (go_at_call 169; (with_reducible refine (spec_l01Power.calls k a0 a1_2 t385 _ A10.out).mono ?_); rintro e w' ⟨rfl, ⟨nd, rfl⟩⟩; (try exact dd_)) | (go_at_call 169; (with_reducible refine (spec_l01Power.calls k a0 (wrap64 (-a1_0)) t392 _ A24.out).mono ?_); rintro e w' ⟨rfl, ⟨nd, rfl⟩⟩; (try exact dd_)) | (go_at_call 170; (with_reducible refine (spec_l01Of.calls k a0 (wrap64 ((wrap64 (a1_1 * (wrap64 (Int.tdiv (ji25) t385)))) + (wrap64 (a2 * (wrap64 (Int.tdiv (ji25) t392)))))) ji25 (wrap64 (a1_0 + 1)) t393 t394 t395 t396 _ A28.out).mono ?_); rintro e w33 ⟨rfl, hb⟩; replace BK383 := bb_ BK383 hb; replace BK384 := bb_ BK384 hb; replace HB := bt_ HB hb; (try clear hb)) | ((refine gd_ 11 ?_); refine by_ 11 #[.int .i64 0, .int .i64 0, .int .i64 0] 25 HB ?_; intro gb397 hg w34 BK397 hb GW397 HB_; have NB383_397 := bm_ BK383 hg; have NB397_383 := bn_ BK383 hg; have NB384_397 := bm_ BK384 hg; have NB397_384 := bn_ BK384 hg; replace BK383 := bb_ BK383 hb; replace BK384 := bb_ BK384 hb; replace HB := HB_; clear hb hg; have hnb35 := NB397_383.out; have hnc35 := NB383_397.out; have hnb36 := NB397_384.out; have hnc36 := NB384_397.out; obtain ⟨hcz37_0, hcz37_1, hcz37_2, hfz37_0, hfz37_1, hfz37_2⟩ := ch3_ BK397; obtain ⟨hcz38_0, hcz38_1, hcz38_2, hfz38_0, hfz38_1, hfz38_2⟩ := ch3_ BK384)))
 refine bodyPost_ret (results_ct rfl _ _ gb384 25 #[.int .i64 t393, .int .i64 t394, .int .i64 t395] (0, 0) _ rfl (bp_ BK384).out Try.underlying25 rfl (by kernel_rfl)) rfl ?_
 exact ⟨by first | rfl | (simp [errW_none, errW_some] <;> rfl) | (simp only [← hji25]; first | rfl | (simp [errW_none, errW_some] <;> rfl)) | (simp [*, errW_none, errW_some] <;> rfl), (bw_ HB).out⟩
end Go.Proofs.Ytgoeelhiffbjlaa.QP
