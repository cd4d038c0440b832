import Derived.Test.YtgoeelhiffbjlaaQBx19
namespace Go.Proofs.Ytgoeelhiffbjlaa.QB
set_option maxHeartbeats 8000000
set_option maxRecDepth 100000
open Go.RowKit YtgoeelhiffbjlaaW.PrintWords YtgoeelhiffbjlaaW.PrintLast YtgoeelhiffbjlaaW.PrintMore
attribute [local go_sem] isSome_setCell max2_int min2_int max_two min_two max_three min_three max_four min_four
set_option linter.unusedVariables false
set_option linter.unusedSimpArgs false
attribute [local go_sem high] eqA25
def spec_l01Holds.f (k : Nat) (a0 a1_0 a1_1 a1_2 a2_0 a2_1 a2_2 : Int) : Option (Bool) := if a1_0 > a2_0 then (some false) else ((spec_l01Power.f k a0 a2_2).bind fun t138 => ((spec_l01Of.f k a0 a2_1 t138 a1_0).bind fun bt139 => (if bt139.2.2.2 = true then (some (bt139.1 == a1_0 && (bt139.2.1 == a1_1 && (bt139.2.2.1 == a1_2)))) else (some false))))
def spec_l01Holds.T3 : Bool × List (List Nat × List Nat) := (true, [([], []), ([], []), ([1], [1]), ([], []), ([], []), ([4], [4]), ([3, 5], [3, 5]), ([], []), ([7], [7]), ([0, 2, 6, 8, 6], [0, 2, 6, 8]), ([9], [9]), ([10], [10]), ([10], [10]), ([], []), ([13, 11, 9, 0, 1, 2, 3, 4, 5, 6, 7, 8, 9, 10, 11, 13], [11, 13]), ([12, 14, 0, 1, 2, 3, 4, 5, 6, 7, 8, 9, 10, 11, 12, 13, 14], [12])])
def spec_l01Holds.B3 : List Nat := [0, 0, 2, 0, 0, 16, 56, 0, 128, 511, 1023, 2047, 2047, 0, 12287, 32767]
theorem spec_l01Holds.tab3 : rtab .any (opsOf Try.f205 3) = spec_l01Holds.T3 := by kernel_rfl
theorem spec_l01Holds.bits3 : waitsOk spec_l01Holds.T3.2 spec_l01Holds.B3 = true := by kernel_rfl
theorem spec_l01Holds.calls (k : Nat) (a0 a1_0 a1_1 a1_2 a2_0 a2_1 a2_2 : Int) (r : Bool) (w : World) (h : spec_l01Holds.f k a0 a1_0 a1_1 a1_2 a2_0 a2_1 a2_2 = some r) :
  Calls Try.prog 205 #[.int .i64 a0, .agg #[.int .i64 a1_0, .int .i64 a1_1, .int .i64 a1_2], .agg #[.int .i64 a2_0, .int .i64 a2_1, .int .i64 a2_2]] w fun e w' => e = .returned (.bool r) ∧ Below w.heap.size w w' := by
 have hu25 := Try.underlying25
 have HB := Aside0.mk (Below.refl w.heap.size w)
 unfold spec_l01Holds.f at h
 have H := h
 clear h
 replace H := ig_ H
 rcases H with ⟨c4b0, H⟩ | ⟨c4b0, H⟩
 ·obtain rfl := si_ H
  go_enter Try.func205, Try.ntmps205
  go_wp2_with (first | ((refine gd_ 4 ?_); refine by_ 4 #[.int .i64 a1_0, .int .i64 a1_1, .int .i64 a1_2] 25 HB ?_; intro gb136 hg w5 BK136 hb GW136 HB_; replace HB := HB_; clear hb hg) | ((refine gd_ 5 ?_); refine by_ 5 #[.int .i64 a2_0, .int .i64 a2_1, .int .i64 a2_2] 25 HB ?_; intro gb137 hg w6 BK137 hb GW137 HB_; have NB136_137 := bm_ BK136 hg; have NB137_136 := bn_ BK136 hg; replace BK136 := bb_ BK136 hb; replace HB := HB_; clear hb hg; have hnb7 := NB136_137.out; have hnc7 := NB137_136.out; obtain ⟨hcz8_0, hcz8_1, hcz8_2, hfz8_0, hfz8_1, hfz8_2⟩ := ch3_ BK136; obtain ⟨hcz9_0, hcz9_1, hcz9_2, hfz9_0, hfz9_1, hfz9_2⟩ := ch3_ BK137))
  go_ret
  exact ⟨es_, (bw_ HB).out⟩
 replace H := oc_ H
 obtain ⟨t138, A10, H⟩ := H
 replace H := oc_ H
 obtain ⟨⟨t139, t140, t141, t142⟩, A11, H⟩ := H
 replace H := ib_ H
 rcases H with ⟨rfl, H⟩ | ⟨rfl, H⟩
 ·obtain rfl := si_ H
  go_enter Try.func205, Try.ntmps205
  try go_wp2_with (first | ((refine gd_ 4 ?_); refine by_ 4 #[.int .i64 a1_0, .int .i64 a1_1, .int .i64 a1_2] 25 HB ?_; intro gb136 hg w13 BK136 hb GW136 HB_; replace HB := HB_; clear hb hg) | ((refine gd_ 5 ?_); refine by_ 5 #[.int .i64 a2_0, .int .i64 a2_1, .int .i64 a2_2] 25 HB ?_; intro gb137 hg w14 BK137 hb GW137 HB_; have NB136_137 := bm_ BK136 hg; have NB137_136 := bn_ BK136 hg; replace BK136 := bb_ BK136 hb; replace HB := HB_; clear hb hg; have hnb15 := NB136_137.out; have hnc15 := NB137_136.out; obtain ⟨hcz16_0, hcz16_1, hcz16_2, hfz16_0, hfz16_1, hfz16_2⟩ := ch3_ BK136; obtain ⟨hcz17_0, hcz17_1, hcz17_2, hfz17_0, hfz17_1, hfz17_2⟩ := ch3_ BK137))
  replace BK136 := bd_ BK136
  replace BK137 := bd_ BK137
  replace HB := be_ HB
  refine start_ (n := 16) (S := fun w' => w'.cell? ⟨gb137, 0, none⟩ = some (.int .i64 a2_0) ∧ w'.cell? ⟨gb137, 1, none⟩ = some (.int .i64 a2_1) ∧ w'.cell? ⟨gb137, 2, none⟩ = some (.int .i64 a2_2) ∧ w'.cell? ⟨gb136, 0, none⟩ = some (.int .i64 a1_0) ∧ w'.cell? ⟨gb136, 1, none⟩ = some (.int .i64 a1_1) ∧ w'.cell? ⟨gb136, 2, none⟩ = some (.int .i64 a1_2)) (ds := []) (bv_ 16 0) (by kernel_rfl) rfl rfl ⟨cz_ BK137 0, cz_ BK137 1, cz_ BK137 2, cz_ BK136 0, cz_ BK136 1, cz_ BK136 2⟩ (fun hHeld => ?_); refine with_tabW spec_l01Holds.tab3 spec_l01Holds.bits3 (fun HT_ HW_ => ?_)
  generalize w14.drew = w18 at BK136 BK137 HB hHeld ⊢
  refine px_ HT_ 0 15 1 ?_
  refine px_ HT_ 1 16 3 ?_
  refine px_ HT_ 3 18 11 ?_
  refine px_ HT_ 4 19 27 ?_
  refine px_ HT_ 7 22 155 ?_
  refine ta_ HT_ HW_ 2 (some 17) (bv_ 16 159) hHeld ?_ (hy := by rintro w' ⟨s0, s1, s2, s3, s4, s5⟩; go_simp; with_reducible rfl)
  refine ta_ HT_ HW_ 5 (some 20) (bv_ 16 191) hHeld ?_ (hy := by rintro w' ⟨s0, s1, s2, s3, s4, s5⟩; go_simp; with_reducible rfl)
  refine ta_ HT_ HW_ 8 (some 23) (bv_ 16 447) hHeld ?_ (hy := by rintro w' ⟨s0, s1, s2, s3, s4, s5⟩; go_simp; with_reducible rfl)
  refine join_ (σ := Nat) 2 (bv_ 16 16383) (fun s_ => [(21, .int .i64 t138), (24, .tuple #[.agg #[.int .i64 t139, .int .i64 t140, .int .i64 t141], .bool true]), (7, .pointer (some ⟨s_, 0, none⟩)), (14, .tuple #[.agg #[.int .i64 t139, .int .i64 t140, .int .i64 t141], .bool true]), (25, .agg #[.int .i64 t139, .int .i64 t140, .int .i64 t141]), (26, .bool true)]) (fun s_ w' => (w'.cell? ⟨gb137, 0, none⟩ = some (.int .i64 a2_0) ∧ w'.cell? ⟨gb137, 1, none⟩ = some (.int .i64 a2_1) ∧ w'.cell? ⟨gb137, 2, none⟩ = some (.int .i64 a2_2) ∧ w'.cell? ⟨gb136, 0, none⟩ = some (.int .i64 a1_0) ∧ w'.cell? ⟨gb136, 1, none⟩ = some (.int .i64 a1_1) ∧ w'.cell? ⟨gb136, 2, none⟩ = some (.int .i64 a1_2)) ∧ (w'.heap[gb136]? = some (.cells #[.int .i64 a1_0, .int .i64 a1_1, .int .i64 a1_2] 25 (0, 0))) ∧ (w'.heap[gb137]? = some (.cells #[.int .i64 a2_0, .int .i64 a2_1, .int .i64 a2_2] 25 (0, 0))) ∧ (w'.heap[s_]? = some (.cells #[.int .i64 0, .int .i64 0, .int .i64 0] 25 (0, 0))) ∧ (w.heap.size ≤ s_) ∧ (w.heap.size ≤ s_) ∧ (gb136 ≠ s_) ∧ (s_ ≠ gb136) ∧ (gb137 ≠ s_) ∧ (s_ ≠ gb137) ∧ (Below w.heap.size w w')) ?_ ?_
  rotate_left
  ·intro hCont
   refine tw_ HT_ 6 13 (some 21) (some 7) (bv_ 16 511) (bv_ 16 8639) (fun K hK => ?_) (fun K hK => ?_)
   ·skip
    refine gs_ Try.func169 #[.int .i64 a0, .int .i64 a2_2] ?_
    with_reducible refine (spec_l01Power.calls k a0 a2_2 t138 _ A10.out).mono ?_
    rintro e w' ⟨rfl, ⟨nd, rfl⟩⟩
    refine ⟨_, rfl, ?_⟩
    refine hK.out _ _ ⟨cz_ BK137 0, cz_ BK137 1, cz_ BK137 2, cz_ BK136 0, cz_ BK136 1, cz_ BK136 2⟩ (fun hHeld => ?_)
    clear hK K
    refine nm_ (some 21) ?_
    refine tw_ HT_ 9 13 (some 24) (some 7) (bv_ 16 1023) (bv_ 16 8703) (fun K hK => ?_) (fun K hK => ?_)
    ·skip
     refine gs_ Try.func170 #[.int .i64 a0, .int .i64 a2_1, .int .i64 t138, .int .i64 a1_0] ?_
     with_reducible refine (spec_l01Of.calls k a0 a2_1 t138 a1_0 t139 t140 t141 true _ A11.out).mono ?_
     rintro e w19 ⟨rfl, hb⟩
     refine ⟨_, rfl, ?_⟩
     replace BK136 := bb_ BK136 hb
     replace BK137 := bb_ BK137 hb
     replace HB := bt_ HB hb
     try clear hb
     refine hK.out _ _ ⟨cz_ BK137 0, cz_ BK137 1, cz_ BK137 2, cz_ BK136 0, cz_ BK136 1, cz_ BK136 2⟩ (fun hHeld => ?_)
     clear hK K
     refine nm_ (some 24) ?_
     refine px_ HT_ 10 14 2047 ?_
     refine px_ HT_ 11 25 4095 ?_
     refine px_ HT_ 12 26 8191 ?_
     refine on_ HT_ 13 (some 7) (bv_ 16 16383) (fun K hK => ?_)
     refine bz_ 7 #[.int .i64 0, .int .i64 0, .int .i64 0] 25 ?_
     intro gb143 hg w20 BK143 hb
     have GW143 := bs_ HB hg
     have NB136_143 := bm_ BK136 hg
     have NB143_136 := bn_ BK136 hg
     have NB137_143 := bm_ BK137 hg
     have NB143_137 := bn_ BK137 hg
     replace BK136 := bb_ BK136 hb
     replace BK137 := bb_ BK137 hb
     replace HB := bt_ HB hb
     clear hb hg
     refine hK.out _ _ ⟨cz_ BK137 0, cz_ BK137 1, cz_ BK137 2, cz_ BK136 0, cz_ BK136 1, cz_ BK136 2⟩ (fun hHeld => ?_)
     clear hK K
     refine nm_ (some 7) ?_
     exact norm_ (by simp only [putAll, Act.put, lstS, lstZ, lstC]) (hCont (gb143) _ ⟨hHeld, (bl_ BK136).out, (bl_ BK137).out, (bl_ BK143).out, GW143.out, GW143.out, NB136_143.out, NB143_136.out, NB137_143.out, NB143_137.out, (bw_ HB).out⟩)
    skip
    refine bz_ 7 #[.int .i64 0, .int .i64 0, .int .i64 0] 25 ?_
    intro gb143 hg w19 BK143 hb
    have GW143 := bs_ HB hg
    have NB136_143 := bm_ BK136 hg
    have NB143_136 := bn_ BK136 hg
    have NB137_143 := bm_ BK137 hg
    have NB143_137 := bn_ BK137 hg
    replace BK136 := bb_ BK136 hb
    replace BK137 := bb_ BK137 hb
    replace HB := bt_ HB hb
    clear hb hg
    refine hK.out _ _ ⟨cz_ BK137 0, cz_ BK137 1, cz_ BK137 2, cz_ BK136 0, cz_ BK136 1, cz_ BK136 2⟩ (fun hHeld => ?_)
    clear hK K
    refine nm_ (some 7) ?_
    refine on_ HT_ 9 (some 24) (bv_ 16 9215) (fun K hK => ?_)
    refine gs_ Try.func170 #[.int .i64 a0, .int .i64 a2_1, .int .i64 t138, .int .i64 a1_0] ?_
    with_reducible refine (spec_l01Of.calls k a0 a2_1 t138 a1_0 t139 t140 t141 true _ A11.out).mono ?_
    rintro e w20 ⟨rfl, hb⟩
    refine ⟨_, rfl, ?_⟩
    replace BK136 := bb_ BK136 hb
    replace BK137 := bb_ BK137 hb
    replace BK143 := bb_ BK143 hb
    replace HB := bt_ HB hb
    try clear hb
    refine hK.out _ _ ⟨cz_ BK137 0, cz_ BK137 1, cz_ BK137 2, cz_ BK136 0, cz_ BK136 1, cz_ BK136 2⟩ (fun hHeld => ?_)
    clear hK K
    refine nm_ (some 24) ?_
    refine px_ HT_ 10 14 10239 ?_
    refine px_ HT_ 11 25 12287 ?_
    refine px_ HT_ 12 26 16383 ?_
    exact norm_ (by simp only [putAll, Act.put, lstS, lstZ, lstC]) (hCont (gb143) _ ⟨hHeld, (bl_ BK136).out, (bl_ BK137).out, (bl_ BK143).out, GW143.out, GW143.out, NB136_143.out, NB143_136.out, NB137_143.out, NB143_137.out, (bw_ HB).out⟩)
   skip
   refine bz_ 7 #[.int .i64 0, .int .i64 0, .int .i64 0] 25 ?_
   intro gb143 hg w19 BK143 hb
   have GW143 := bs_ HB hg
   have NB136_143 := bm_ BK136 hg
   have NB143_136 := bn_ BK136 hg
   have NB137_143 := bm_ BK137 hg
   have NB143_137 := bn_ BK137 hg
   replace BK136 := bb_ BK136 hb
   replace BK137 := bb_ BK137 hb
   replace HB := bt_ HB hb
   clear hb hg
   refine hK.out _ _ ⟨cz_ BK137 0, cz_ BK137 1, cz_ BK137 2, cz_ BK136 0, cz_ BK136 1, cz_ BK136 2⟩ (fun hHeld => ?_)
   clear hK K
   refine nm_ (some 7) ?_
   refine on_ HT_ 6 (some 21) (bv_ 16 8703) (fun K hK => ?_)
   refine gs_ Try.func169 #[.int .i64 a0, .int .i64 a2_2] ?_
   with_reducible refine (spec_l01Power.calls k a0 a2_2 t138 _ A10.out).mono ?_
   rintro e w' ⟨rfl, ⟨nd, rfl⟩⟩
   refine ⟨_, rfl, ?_⟩
   refine hK.out _ _ ⟨cz_ BK137 0, cz_ BK137 1, cz_ BK137 2, cz_ BK136 0, cz_ BK136 1, cz_ BK136 2⟩ (fun hHeld => ?_)
   clear hK K
   refine nm_ (some 21) ?_
   refine on_ HT_ 9 (some 24) (bv_ 16 9215) (fun K hK => ?_)
   refine gs_ Try.func170 #[.int .i64 a0, .int .i64 a2_1, .int .i64 t138, .int .i64 a1_0] ?_
   with_reducible refine (spec_l01Of.calls k a0 a2_1 t138 a1_0 t139 t140 t141 true _ A11.out).mono ?_
   rintro e w20 ⟨rfl, hb⟩
   refine ⟨_, rfl, ?_⟩
   replace BK136 := bb_ BK136 hb
   replace BK137 := bb_ BK137 hb
   replace BK143 := bb_ BK143 hb
   replace HB := bt_ HB hb
   try clear hb
   refine hK.out _ _ ⟨cz_ BK137 0, cz_ BK137 1, cz_ BK137 2, cz_ BK136 0, cz_ BK136 1, cz_ BK136 2⟩ (fun hHeld => ?_)
   clear hK K
   refine nm_ (some 24) ?_
   refine px_ HT_ 10 14 10239 ?_
   refine px_ HT_ 11 25 12287 ?_
   refine px_ HT_ 12 26 16383 ?_
   exact norm_ (by simp only [putAll, Act.put, lstS, lstZ, lstC]) (hCont (gb143) _ ⟨hHeld, (bl_ BK136).out, (bl_ BK137).out, (bl_ BK143).out, GW143.out, GW143.out, NB136_143.out, NB143_136.out, NB137_143.out, NB143_137.out, (bw_ HB).out⟩)
  rintro gb143 w21 ⟨hS_, h0_, h1_, h2_, h3_, h4_, h5_, h6_, h7_, h8_, h9_⟩
  clear BK136 BK137 HB
  have BK136 := Aside0.mk h0_
  have BK137 := Aside0.mk h1_
  have BK143 := Aside0.mk h2_
  have GW143 := Aside0.mk h3_
  have GW143 := Aside0.mk h4_
  have NB136_143 := Aside0.mk h5_
  have NB143_136 := Aside0.mk h6_
  have NB137_143 := Aside0.mk h7_
  have NB143_137 := Aside0.mk h8_
  have HB := Aside0.mk h9_
  clear h0_ h1_ h2_ h3_ h4_ h5_ h6_ h7_ h8_ h9_
  have hHeld : w21.cell? ⟨gb137, 0, none⟩ = some (.int .i64 a2_0) ∧ w21.cell? ⟨gb137, 1, none⟩ = some (.int .i64 a2_1) ∧ w21.cell? ⟨gb137, 2, none⟩ = some (.int .i64 a2_2) ∧ w21.cell? ⟨gb136, 0, none⟩ = some (.int .i64 a1_0) ∧ w21.cell? ⟨gb136, 1, none⟩ = some (.int .i64 a1_1) ∧ w21.cell? ⟨gb136, 2, none⟩ = some (.int .i64 a1_2) := hS_
  refine norm_ (a' := ?_) ?_ ?_
  rotate_left
  ·simp only [putAll, Act.put, lstS, lstZ, lstC]
   rfl
  refine on_ HT_ 14 none (bv_ 16 32767) (fun K hK => ?_)
  have hs22 : w21.cell? ⟨gb143, 0, none⟩ = some (.int .i64 0) := (blk_cell BK143.out 0).trans rfl
  have hfs22 := blk_frozen BK143.out 0
  have hns22_0 := NB136_143.out
  have hns22_1 := NB137_143.out
  have hms22_0 := NB143_136.out
  have hms22_1 := NB143_137.out
  have hs23 : w21.cell? ⟨gb143, 1, none⟩ = some (.int .i64 0) := (blk_cell BK143.out 1).trans rfl
  have hfs23 := blk_frozen BK143.out 1
  have hns23_0 := NB136_143.out
  have hns23_1 := NB137_143.out
  have hms23_0 := NB143_136.out
  have hms23_1 := NB143_137.out
  have hs24 : w21.cell? ⟨gb143, 2, none⟩ = some (.int .i64 0) := (blk_cell BK143.out 2).trans rfl
  have hfs24 := blk_frozen BK143.out 2
  have hns24_0 := NB136_143.out
  have hns24_1 := NB137_143.out
  have hms24_0 := NB143_136.out
  have hms24_1 := NB143_137.out
  refine skip_ (w1 := ?_) (by rfl) rfl ?_ ?_
  rotate_left
  ·go_simp
   rfl
  refine hK.out _ _ ⟨(cg_ NB137_143 ((cg_ NB137_143 ((cg_ NB137_143 (hHeld.1)))))), (cg_ NB137_143 ((cg_ NB137_143 ((cg_ NB137_143 (hHeld.2.1)))))), (cg_ NB137_143 ((cg_ NB137_143 ((cg_ NB137_143 (hHeld.2.2.1)))))), (cg_ NB136_143 ((cg_ NB136_143 ((cg_ NB136_143 (hHeld.2.2.2.1)))))), (cg_ NB136_143 ((cg_ NB136_143 ((cg_ NB136_143 (hHeld.2.2.2.2.1)))))), (cg_ NB136_143 ((cg_ NB136_143 ((cg_ NB136_143 (hHeld.2.2.2.2.2))))))⟩ (fun hHeld => ?_)
  clear hK K
  refine px_ HT_ 15 8 65535 ?_
  refine done_ (done_of HT_.out (by kernel_rfl)) ?_
  have hnb25 := NB143_136.out
  have hnc25 := NB136_143.out
  have hnb26 := NB143_137.out
  have hnc26 := NB137_143.out
  obtain ⟨hcz27_0, hcz27_1, hcz27_2, hfz27_0, hfz27_1, hfz27_2⟩ := ch3_ BK143
  obtain ⟨hcz28_0, hcz28_1, hcz28_2, hfz28_0, hfz28_1, hfz28_2⟩ := ch3_ BK136
  try go_wp2
  go_ret
  exact ⟨es_, (bw_ HB).out⟩
 obtain rfl := si_ H
 go_enter Try.func205, Try.ntmps205
 try go_wp2_with (first | ((refine gd_ 4 ?_); refine by_ 4 #[.int .i64 a1_0, .int .i64 a1_1, .int .i64 a1_2] 25 HB ?_; intro gb136 hg w29 BK136 hb GW136 HB_; replace HB := HB_; clear hb hg) | ((refine gd_ 5 ?_); refine by_ 5 #[.int .i64 a2_0, .int .i64 a2_1, .int .i64 a2_2] 25 HB ?_; intro gb137 hg w30 BK137 hb GW137 HB_; have NB136_137 := bm_ BK136 hg; have NB137_136 := bn_ BK136 hg; replace BK136 := bb_ BK136 hb; replace HB := HB_; clear hb hg; have hnb31 := NB136_137.out; have hnc31 := NB137_136.out; obtain ⟨hcz32_0, hcz32_1, hcz32_2, hfz32_0, hfz32_1, hfz32_2⟩ := ch3_ BK136; obtain ⟨hcz33_0, hcz33_1, hcz33_2, hfz33_0, hfz33_1, hfz33_2⟩ := ch3_ BK137))
 replace BK136 := bd_ BK136
 replace BK137 := bd_ BK137
 replace HB := be_ HB
 refine start_ (n := 16) (S := fun w' => w'.cell? ⟨gb137, 0, none⟩ = some (.int .i64 a2_0) ∧ w'.cell? ⟨gb137, 1, none⟩ = some (.int .i64 a2_1) ∧ w'.cell? ⟨gb137, 2, none⟩ = some (.int .i64 a2_2) ∧ w'.cell? ⟨gb136, 0, none⟩ = some (.int .i64 a1_0) ∧ w'.cell? ⟨gb136, 1, none⟩ = some (.int .i64 a1_1) ∧ w'.cell? ⟨gb136, 2, none⟩ = some (.int .i64 a1_2)) (ds := []) (bv_ 16 0) (by kernel_rfl) rfl rfl ⟨cz_ BK137 0, cz_ BK137 1, cz_ BK137 2, cz_ BK136 0, cz_ BK136 1, cz_ BK136 2⟩ (fun hHeld => ?_); refine with_tabW spec_l01Holds.tab3 spec_l01Holds.bits3 (fun HT_ HW_ => ?_)
 generalize w30.drew = w34 at BK136 BK137 HB hHeld ⊢
 refine px_ HT_ 0 15 1 ?_
 refine px_ HT_ 1 16 3 ?_
 refine px_ HT_ 3 18 11 ?_
 refine px_ HT_ 4 19 27 ?_
 refine px_ HT_ 7 22 155 ?_
 refine ta_ HT_ HW_ 2 (some 17) (bv_ 16 159) hHeld ?_ (hy := by rintro w' ⟨s0, s1, s2, s3, s4, s5⟩; go_simp; with_reducible rfl)
 refine ta_ HT_ HW_ 5 (some 20) (bv_ 16 191) hHeld ?_ (hy := by rintro w' ⟨s0, s1, s2, s3, s4, s5⟩; go_simp; with_reducible rfl)
 refine ta_ HT_ HW_ 8 (some 23) (bv_ 16 447) hHeld ?_ (hy := by rintro w' ⟨s0, s1, s2, s3, s4, s5⟩; go_simp; with_reducible rfl)
 refine join_ (σ := Nat) 2 (bv_ 16 16383) (fun s_ => [(21, .int .i64 t138), (24, .tuple #[.agg #[.int .i64 t139, .int .i64 t140, .int .i64 t141], .bool false]), (7, .pointer (some ⟨s_, 0, none⟩)), (14, .tuple #[.agg #[.int .i64 t139, .int .i64 t140, .int .i64 t141], .bool false]), (25, .agg #[.int .i64 t139, .int .i64 t140, .int .i64 t141]), (26, .bool false)]) (fun s_ w' => (w'.cell? ⟨gb137, 0, none⟩ = some (.int .i64 a2_0) ∧ w'.cell? ⟨gb137, 1, none⟩ = some (.int .i64 a2_1) ∧ w'.cell? ⟨gb137, 2, none⟩ = some (.int .i64 a2_2) ∧ w'.cell? ⟨gb136, 0, none⟩ = some (.int .i64 a1_0) ∧ w'.cell? ⟨gb136, 1, none⟩ = some (.int .i64 a1_1) ∧ w'.cell? ⟨gb136, 2, none⟩ = some (.int .i64 a1_2)) ∧ (w'.heap[gb136]? = some (.cells #[.int .i64 a1_0, .int .i64 a1_1, .int .i64 a1_2] 25 (0, 0))) ∧ (w'.heap[gb137]? = some (.cells #[.int .i64 a2_0, .int .i64 a2_1, .int .i64 a2_2] 25 (0, 0))) ∧ (w'.heap[s_]? = some (.cells #[.int .i64 0, .int .i64 0, .int .i64 0] 25 (0, 0))) ∧ (w.heap.size ≤ s_) ∧ (w.heap.size ≤ s_) ∧ (gb136 ≠ s_) ∧ (s_ ≠ gb136) ∧ (gb137 ≠ s_) ∧ (s_ ≠ gb137) ∧ (Below w.heap.size w w')) ?_ ?_
 rotate_left
 ·intro hCont
  refine tw_ HT_ 6 13 (some 21) (some 7) (bv_ 16 511) (bv_ 16 8639) (fun K hK => ?_) (fun K hK => ?_)
  ·skip
   refine gs_ Try.func169 #[.int .i64 a0, .int .i64 a2_2] ?_
   with_reducible refine (spec_l01Power.calls k a0 a2_2 t138 _ A10.out).mono ?_
   rintro e w' ⟨rfl, ⟨nd, rfl⟩⟩
   refine ⟨_, rfl, ?_⟩
   refine hK.out _ _ ⟨cz_ BK137 0, cz_ BK137 1, cz_ BK137 2, cz_ BK136 0, cz_ BK136 1, cz_ BK136 2⟩ (fun hHeld => ?_)
   clear hK K
   refine nm_ (some 21) ?_
   refine tw_ HT_ 9 13 (some 24) (some 7) (bv_ 16 1023) (bv_ 16 8703) (fun K hK => ?_) (fun K hK => ?_)
   ·skip
    refine gs_ Try.func170 #[.int .i64 a0, .int .i64 a2_1, .int .i64 t138, .int .i64 a1_0] ?_
    with_reducible refine (spec_l01Of.calls k a0 a2_1 t138 a1_0 t139 t140 t141 false _ A11.out).mono ?_
    rintro e w35 ⟨rfl, hb⟩
    refine ⟨_, rfl, ?_⟩
    replace BK136 := bb_ BK136 hb
    replace BK137 := bb_ BK137 hb
    replace HB := bt_ HB hb
    try clear hb
    refine hK.out _ _ ⟨cz_ BK137 0, cz_ BK137 1, cz_ BK137 2, cz_ BK136 0, cz_ BK136 1, cz_ BK136 2⟩ (fun hHeld => ?_)
    clear hK K
    refine nm_ (some 24) ?_
    refine px_ HT_ 10 14 2047 ?_
    refine px_ HT_ 11 25 4095 ?_
    refine px_ HT_ 12 26 8191 ?_
    refine on_ HT_ 13 (some 7) (bv_ 16 16383) (fun K hK => ?_)
    refine bz_ 7 #[.int .i64 0, .int .i64 0, .int .i64 0] 25 ?_
    intro gb143 hg w36 BK143 hb
    have GW143 := bs_ HB hg
    have NB136_143 := bm_ BK136 hg
    have NB143_136 := bn_ BK136 hg
    have NB137_143 := bm_ BK137 hg
    have NB143_137 := bn_ BK137 hg
    replace BK136 := bb_ BK136 hb
    replace BK137 := bb_ BK137 hb
    replace HB := bt_ HB hb
    clear hb hg
    refine hK.out _ _ ⟨cz_ BK137 0, cz_ BK137 1, cz_ BK137 2, cz_ BK136 0, cz_ BK136 1, cz_ BK136 2⟩ (fun hHeld => ?_)
    clear hK K
    refine nm_ (some 7) ?_
    exact norm_ (by simp only [putAll, Act.put, lstS, lstZ, lstC]) (hCont (gb143) _ ⟨hHeld, (bl_ BK136).out, (bl_ BK137).out, (bl_ BK143).out, GW143.out, GW143.out, NB136_143.out, NB143_136.out, NB137_143.out, NB143_137.out, (bw_ HB).out⟩)
   skip
   refine bz_ 7 #[.int .i64 0, .int .i64 0, .int .i64 0] 25 ?_
   intro gb143 hg w35 BK143 hb
   have GW143 := bs_ HB hg
   have NB136_143 := bm_ BK136 hg
   have NB143_136 := bn_ BK136 hg
   have NB137_143 := bm_ BK137 hg
   have NB143_137 := bn_ BK137 hg
   replace BK136 := bb_ BK136 hb
   replace BK137 := bb_ BK137 hb
   replace HB := bt_ HB hb
   clear hb hg
   refine hK.out _ _ ⟨cz_ BK137 0, cz_ BK137 1, cz_ BK137 2, cz_ BK136 0, cz_ BK136 1, cz_ BK136 2⟩ (fun hHeld => ?_)
   clear hK K
   refine nm_ (some 7) ?_
   refine on_ HT_ 9 (some 24) (bv_ 16 9215) (fun K hK => ?_)
   refine gs_ Try.func170 #[.int .i64 a0, .int .i64 a2_1, .int .i64 t138, .int .i64 a1_0] ?_
   with_reducible refine (spec_l01Of.calls k a0 a2_1 t138 a1_0 t139 t140 t141 false _ A11.out).mono ?_
   rintro e w36 ⟨rfl, hb⟩
   refine ⟨_, rfl, ?_⟩
   replace BK136 := bb_ BK136 hb
   replace BK137 := bb_ BK137 hb
   replace BK143 := bb_ BK143 hb
   replace HB := bt_ HB hb
   try clear hb
   refine hK.out _ _ ⟨cz_ BK137 0, cz_ BK137 1, cz_ BK137 2, cz_ BK136 0, cz_ BK136 1, cz_ BK136 2⟩ (fun hHeld => ?_)
   clear hK K
   refine nm_ (some 24) ?_
   refine px_ HT_ 10 14 10239 ?_
   refine px_ HT_ 11 25 12287 ?_
   refine px_ HT_ 12 26 16383 ?_
   exact norm_ (by simp only [putAll, Act.put, lstS, lstZ, lstC]) (hCont (gb143) _ ⟨hHeld, (bl_ BK136).out, (bl_ BK137).out, (bl_ BK143).out, GW143.out, GW143.out, NB136_143.out, NB143_136.out, NB137_143.out, NB143_137.out, (bw_ HB).out⟩)
  skip
  refine bz_ 7 #[.int .i64 0, .int .i64 0, .int .i64 0] 25 ?_
  intro gb143 hg w35 BK143 hb
  have GW143 := bs_ HB hg
  have NB136_143 := bm_ BK136 hg
  have NB143_136 := bn_ BK136 hg
  have NB137_143 := bm_ BK137 hg
  have NB143_137 := bn_ BK137 hg
  replace BK136 := bb_ BK136 hb
  replace BK137 := bb_ BK137 hb
  replace HB := bt_ HB hb
  clear hb hg
  refine hK.out _ _ ⟨cz_ BK137 0, cz_ BK137 1, cz_ BK137 2, cz_ BK136 0, cz_ BK136 1, cz_ BK136 2⟩ (fun hHeld => ?_)
  clear hK K
  refine nm_ (some 7) ?_
  refine on_ HT_ 6 (some 21) (bv_ 16 8703) (fun K hK => ?_)
  refine gs_ Try.func169 #[.int .i64 a0, .int .i64 a2_2] ?_
  with_reducible refine (spec_l01Power.calls k a0 a2_2 t138 _ A10.out).mono ?_
  rintro e w' ⟨rfl, ⟨nd, rfl⟩⟩
  refine ⟨_, rfl, ?_⟩
  refine hK.out _ _ ⟨cz_ BK137 0, cz_ BK137 1, cz_ BK137 2, cz_ BK136 0, cz_ BK136 1, cz_ BK136 2⟩ (fun hHeld => ?_)
  clear hK K
  refine nm_ (some 21) ?_
  refine on_ HT_ 9 (some 24) (bv_ 16 9215) (fun K hK => ?_)
  refine gs_ Try.func170 #[.int .i64 a0, .int .i64 a2_1, .int .i64 t138, .int .i64 a1_0] ?_
  with_reducible refine (spec_l01Of.calls k a0 a2_1 t138 a1_0 t139 t140 t141 false _ A11.out).mono ?_
  rintro e w36 ⟨rfl, hb⟩
  refine ⟨_, rfl, ?_⟩
  replace BK136 := bb_ BK136 hb
  replace BK137 := bb_ BK137 hb
  replace BK143 := bb_ BK143 hb
  replace HB := bt_ HB hb
  try clear hb
  refine hK.out _ _ ⟨cz_ BK137 0, cz_ BK137 1, cz_ BK137 2, cz_ BK136 0, cz_ BK136 1, cz_ BK136 2⟩ (fun hHeld => ?_)
  clear hK K
  refine nm_ (some 24) ?_
  refine px_ HT_ 10 14 10239 ?_
  refine px_ HT_ 11 25 12287 ?_
  refine px_ HT_ 12 26 16383 ?_
  exact norm_ (by simp only [putAll, Act.put, lstS, lstZ, lstC]) (hCont (gb143) _ ⟨hHeld, (bl_ BK136).out, (bl_ BK137).out, (bl_ BK143).out, GW143.out, GW143.out, NB136_143.out, NB143_136.out, NB137_143.out, NB143_137.out, (bw_ HB).out⟩)
 rintro gb143 w37 ⟨hS_, h0_, h1_, h2_, h3_, h4_, h5_, h6_, h7_, h8_, h9_⟩
 clear BK136 BK137 HB
 have BK136 := Aside0.mk h0_
 have BK137 := Aside0.mk h1_
 have BK143 := Aside0.mk h2_
 have GW143 := Aside0.mk h3_
 have GW143 := Aside0.mk h4_
 have NB136_143 := Aside0.mk h5_
 have NB143_136 := Aside0.mk h6_
 have NB137_143 := Aside0.mk h7_
 have NB143_137 := Aside0.mk h8_
 have HB := Aside0.mk h9_
 clear h0_ h1_ h2_ h3_ h4_ h5_ h6_ h7_ h8_ h9_
 have hHeld : w37.cell? ⟨gb137, 0, none⟩ = some (.int .i64 a2_0) ∧ w37.cell? ⟨gb137, 1, none⟩ = some (.int .i64 a2_1) ∧ w37.cell? ⟨gb137, 2, none⟩ = some (.int .i64 a2_2) ∧ w37.cell? ⟨gb136, 0, none⟩ = some (.int .i64 a1_0) ∧ w37.cell? ⟨gb136, 1, none⟩ = some (.int .i64 a1_1) ∧ w37.cell? ⟨gb136, 2, none⟩ = some (.int .i64 a1_2) := hS_
 refine norm_ (a' := ?_) ?_ ?_
 rotate_left
 ·simp only [putAll, Act.put, lstS, lstZ, lstC]
  rfl
 refine on_ HT_ 14 none (bv_ 16 32767) (fun K hK => ?_)
 have hs38 : w37.cell? ⟨gb143, 0, none⟩ = some (.int .i64 0) := (blk_cell BK143.out 0).trans rfl
 have hfs38 := blk_frozen BK143.out 0
 have hns38_0 := NB136_143.out
 have hns38_1 := NB137_143.out
 have hms38_0 := NB143_136.out
 have hms38_1 := NB143_137.out
 have hs39 : w37.cell? ⟨gb143, 1, none⟩ = some (.int .i64 0) := (blk_cell BK143.out 1).trans rfl
 have hfs39 := blk_frozen BK143.out 1
 have hns39_0 := NB136_143.out
 have hns39_1 := NB137_143.out
 have hms39_0 := NB143_136.out
 have hms39_1 := NB143_137.out
 have hs40 : w37.cell? ⟨gb143, 2, none⟩ = some (.int .i64 0) := (blk_cell BK143.out 2).trans rfl
 have hfs40 := blk_frozen BK143.out 2
 have hns40_0 := NB136_143.out
 have hns40_1 := NB137_143.out
 have hms40_0 := NB143_136.out
 have hms40_1 := NB143_137.out
 refine skip_ (w1 := ?_) (by rfl) rfl ?_ ?_
 rotate_left
 ·go_simp
  rfl
 refine hK.out _ _ ⟨(cg_ NB137_143 ((cg_ NB137_143 ((cg_ NB137_143 (hHeld.1)))))), (cg_ NB137_143 ((cg_ NB137_143 ((cg_ NB137_143 (hHeld.2.1)))))), (cg_ NB137_143 ((cg_ NB137_143 ((cg_ NB137_143 (hHeld.2.2.1)))))), (cg_ NB136_143 ((cg_ NB136_143 ((cg_ NB136_143 (hHeld.2.2.2.1)))))), (cg_ NB136_143 ((cg_ NB136_143 ((cg_ NB136_143 (hHeld.2.2.2.2.1)))))), (cg_ NB136_143 ((cg_ NB136_143 ((cg_ NB136_143 (hHeld.2.2.2.2.2))))))⟩ (fun hHeld => ?_)
 clear hK K
 refine px_ HT_ 15 8 65535 ?_
 refine done_ (done_of HT_.out (by kernel_rfl)) ?_
 try go_wp2
 go_ret
 exact ⟨es_, (bw_ HB).out⟩
def spec_l09Apart.j0 : Nat → Int → Bool → Int → Int → Int → Bool → Int → Int → Int → Bool → Option (Bool)
 | 0, _, _, _, _, _, _, _, _, _, _ => none
 | k + 1, x0, x7, x145000, x145001, x145002, x145003, x146000, x146001, x146002, x146003 => if x7 = true then (some false) else (if x145003 = true then ((spec_l01Holds.f k x0 x145000 x145001 x145002 x146000 x146001 x146002).bind fun t146 => (some t146)) else (if x146003 = true then ((spec_l01Holds.f k x0 x146000 x146001 x146002 x145000 x145001 x145002).bind fun t147 => (some t147)) else ((spec_l01Holds.f k x0 x145000 x145001 x145002 x146000 x146001 x146002).bind fun t148 => (if t148 = true then (some false) else ((spec_l01Holds.f k x0 x146000 x146001 x146002 x145000 x145001 x145002).bind fun t149 => (some (!t149)))))))
def spec_l09Apart.f (k : Nat) (a0 a1_0 a1_1 a1_2 : Int) (a1_3 : Bool) (a2_0 a2_1 a2_2 : Int) (a2_3 : Bool) : Option (Bool) := if a1_3 = true then (spec_l09Apart.j0 k a0 a2_3 a1_0 a1_1 a1_2 a1_3 a2_0 a2_1 a2_2 a2_3) else (spec_l09Apart.j0 k a0 false a1_0 a1_1 a1_2 a1_3 a2_0 a2_1 a2_2 a2_3)
theorem spec_l09Apart.calls (k : Nat) (a0 a1_0 a1_1 a1_2 : Int) (a1_3 : Bool) (a2_0 a2_1 a2_2 : Int) (a2_3 r : Bool) (w : World) (h : spec_l09Apart.f k a0 a1_0 a1_1 a1_2 a1_3 a2_0 a2_1 a2_2 a2_3 = some r) :
  Calls Try.prog 196 #[.int .i64 a0, .agg #[.int .i64 a1_0, .int .i64 a1_1, .int .i64 a1_2, .bool a1_3], .agg #[.int .i64 a2_0, .int .i64 a2_1, .int .i64 a2_2, .bool a2_3]] w fun e w' => e = .returned (.bool r) ∧ Below w.heap.size w w' := by
 have hu150 := Try.underlying150
 have hu25 := Try.underlying25
 have HB := Aside0.mk (Below.refl w.heap.size w)
 unfold spec_l09Apart.f at h
 have H := h
 clear h
 have HC4 := Aside0.mk H
 clear H
 go_enter Try.func196, Try.ntmps196
 go_upto_region 1 with (first | ((refine gd_ 4 ?_); refine by_ 4 #[.int .i64 a1_0, .int .i64 a1_1, .int .i64 a1_2, .bool a1_3] 150 HB ?_; intro gb144 hg w5 BK144 hb GW144 HB_; replace HB := HB_; clear hb hg) | ((refine gd_ 5 ?_); refine by_ 5 #[.int .i64 a2_0, .int .i64 a2_1, .int .i64 a2_2, .bool a2_3] 150 HB ?_; intro gb145 hg w6 BK145 hb GW145 HB_; have NB144_145 := bm_ BK144 hg; have NB145_144 := bn_ BK144 hg; replace BK144 := bb_ BK144 hb; replace HB := HB_; clear hb hg))
 (try simp only [Act.put, lstS, lstZ, lstC])
 go_cut [7] (fun v7 wc => ∃ (kq : Nat) (x7_3 : Bool), v7 = .bool x7_3 ∧ Aside0 (spec_l09Apart.j0 kq a0 x7_3 a1_0 a1_1 a1_2 a1_3 a2_0 a2_1 a2_2 a2_3 = some r) ∧ Aside0 (kq ≤ k) ∧ Aside0 (wc.heap[gb144]? = some (.cells #[.int .i64 a1_0, .int .i64 a1_1, .int .i64 a1_2, .bool a1_3] 150 (0, 0))) ∧ Aside0 (wc.heap[gb145]? = some (.cells #[.int .i64 a2_0, .int .i64 a2_1, .int .i64 a2_2, .bool a2_3] 150 (0, 0))) ∧ Aside0 (Below w.heap.size w wc))
 case first =>
  have H := HC4.out
  clear HC4
  replace H := ib_ H
  rcases H with ⟨rfl, H⟩ | ⟨rfl, H⟩
  ·have H' := Aside0.mk H
   clear H
   have hnb8 := NB144_145.out
   have hnc8 := NB145_144.out
   obtain ⟨hcz9_0, hcz9_1, hcz9_2, hcz9_3, hfz9_0, hfz9_1, hfz9_2, hfz9_3⟩ := ch4_ BK144
   obtain ⟨hcz10_0, hcz10_1, hcz10_2, hcz10_3, hfz10_0, hfz10_1, hfz10_2, hfz10_3⟩ := ch4_ BK145
   go_wp2
   go_meet
   case rel => exact ⟨_, (a2_3), en_, H', ⟨by first | omega | exact Nat.le_refl _⟩, bl_ BK144, bl_ BK145, bw_ HB⟩
  have H' := Aside0.mk H
  clear H
  have hnb11 := NB144_145.out
  have hnc11 := NB145_144.out
  obtain ⟨hcz12_0, hcz12_1, hcz12_2, hcz12_3, hfz12_0, hfz12_1, hfz12_2, hfz12_3⟩ := ch4_ BK144
  go_wp2
  go_meet
  case rel => exact ⟨_, (false), en_, H', ⟨by first | omega | exact Nat.le_refl _⟩, bl_ BK144, bl_ BK145, bw_ HB⟩
 clear HC4
 try clear hcz10_0 hcz10_1 hcz10_2 hcz10_3
 try clear hcz12_0 hcz12_1 hcz12_2 hcz12_3
 try clear hcz9_0 hcz9_1 hcz9_2 hcz9_3
 try clear hfz10_0 hfz10_1 hfz10_2 hfz10_3
 try clear hfz12_0 hfz12_1 hfz12_2 hfz12_3
 try clear hfz9_0 hfz9_1 hfz9_2 hfz9_3
 obtain ⟨kq, x7_3, rfl, HA, HJ3, BK144, BK145, HB⟩ := hcut
 cases kq with
 | zero => exact absurd HA.out (by simp [spec_l09Apart.j0])
 | succ kj3 =>
  have H := HA.out
  clear HA
  simp only [spec_l09Apart.j0] at H
  replace H := ib_ H
  rcases H with ⟨rfl, H⟩ | ⟨rfl, H⟩
  ·obtain rfl := si_ H
   go_wp2
   go_ret
   exact ⟨es_, (bw_ HB).out⟩
  replace H := ib_ H
  rcases H with ⟨rfl, H⟩ | ⟨rfl, H⟩
  ·replace H := oc_ H
   obtain ⟨t146, A15, H⟩ := H
   obtain rfl := si_ H
   have hnb16 := NB144_145.out
   have hnc16 := NB145_144.out
   obtain ⟨hcz17_0, hcz17_1, hcz17_2, hcz17_3, hfz17_0, hfz17_1, hfz17_2, hfz17_3⟩ := ch4_ BK144
   obtain ⟨hcz18_0, hcz18_1, hcz18_2, hcz18_3, hfz18_0, hfz18_1, hfz18_2, hfz18_3⟩ := ch4_ BK145
   go_wp2_with (first | ((refine gc_ 205 ?_); refine ge_ 22 Try.func205 #[.int .i64 a0, .agg #[.int .i64 a1_0, .int .i64 a1_1, .int .i64 a1_2], .agg #[.int .i64 a2_0, .int .i64 a2_1, .int .i64 a2_2]] ?_; (with_reducible refine (spec_l01Holds.calls kj3 a0 a1_0 a1_1 a1_2 a2_0 a2_1 a2_2 t146 _ A15.out).mono ?_); rintro e w19 ⟨rfl, hb⟩; refine ⟨_, rfl, ?_⟩; replace BK144 := bb_ BK144 hb; replace BK145 := bb_ BK145 hb; replace HB := bt_ HB hb; (try clear hb)))
   go_ret
   exact ⟨es_, (bw_ HB).out⟩
  replace H := ib_ H
  rcases H with ⟨rfl, H⟩ | ⟨rfl, H⟩
  ·replace H := oc_ H
   obtain ⟨t147, A21, H⟩ := H
   obtain rfl := si_ H
   have hnb22 := NB144_145.out
   have hnc22 := NB145_144.out
   obtain ⟨hcz23_0, hcz23_1, hcz23_2, hcz23_3, hfz23_0, hfz23_1, hfz23_2, hfz23_3⟩ := ch4_ BK144
   obtain ⟨hcz24_0, hcz24_1, hcz24_2, hcz24_3, hfz24_0, hfz24_1, hfz24_2, hfz24_3⟩ := ch4_ BK145
   go_wp2_with (first | ((refine gc_ 205 ?_); refine ge_ 31 Try.func205 #[.int .i64 a0, .agg #[.int .i64 a2_0, .int .i64 a2_1, .int .i64 a2_2], .agg #[.int .i64 a1_0, .int .i64 a1_1, .int .i64 a1_2]] ?_; (with_reducible refine (spec_l01Holds.calls kj3 a0 a2_0 a2_1 a2_2 a1_0 a1_1 a1_2 t147 _ A21.out).mono ?_); rintro e w25 ⟨rfl, hb⟩; refine ⟨_, rfl, ?_⟩; replace BK144 := bb_ BK144 hb; replace BK145 := bb_ BK145 hb; replace HB := bt_ HB hb; (try clear hb)))
   go_ret
   exact ⟨es_, (bw_ HB).out⟩
  replace H := oc_ H
  obtain ⟨t148, A26, H⟩ := H
  replace H := ib_ H
  rcases H with ⟨rfl, H⟩ | ⟨rfl, H⟩
  ·obtain rfl := si_ H
   have hnb28 := NB144_145.out
   have hnc28 := NB145_144.out
   obtain ⟨hcz29_0, hcz29_1, hcz29_2, hcz29_3, hfz29_0, hfz29_1, hfz29_2, hfz29_3⟩ := ch4_ BK144
   obtain ⟨hcz30_0, hcz30_1, hcz30_2, hcz30_3, hfz30_0, hfz30_1, hfz30_2, hfz30_3⟩ := ch4_ BK145
   go_wp2_with (first | ((refine gc_ 205 ?_); refine ge_ 37 Try.func205 #[.int .i64 a0, .agg #[.int .i64 a1_0, .int .i64 a1_1, .int .i64 a1_2], .agg #[.int .i64 a2_0, .int .i64 a2_1, .int .i64 a2_2]] ?_; (with_reducible refine (spec_l01Holds.calls kj3 a0 a1_0 a1_1 a1_2 a2_0 a2_1 a2_2 true _ A26.out).mono ?_); rintro e w31 ⟨rfl, hb⟩; refine ⟨_, rfl, ?_⟩; replace BK144 := bb_ BK144 hb; replace BK145 := bb_ BK145 hb; replace HB := bt_ HB hb; (try clear hb)))
   go_ret
   exact ⟨es_, (bw_ HB).out⟩
  replace H := oc_ H
  obtain ⟨t149, A32, H⟩ := H
  obtain rfl := si_ H
  have hnb33 := NB144_145.out
  have hnc33 := NB145_144.out
  obtain ⟨hcz34_0, hcz34_1, hcz34_2, hcz34_3, hfz34_0, hfz34_1, hfz34_2, hfz34_3⟩ := ch4_ BK144
  obtain ⟨hcz35_0, hcz35_1, hcz35_2, hcz35_3, hfz35_0, hfz35_1, hfz35_2, hfz35_3⟩ := ch4_ BK145
  go_wp2_with (first | ((refine gc_ 205 ?_); refine ge_ 37 Try.func205 #[.int .i64 a0, .agg #[.int .i64 a1_0, .int .i64 a1_1, .int .i64 a1_2], .agg #[.int .i64 a2_0, .int .i64 a2_1, .int .i64 a2_2]] ?_; (with_reducible refine (spec_l01Holds.calls kj3 a0 a1_0 a1_1 a1_2 a2_0 a2_1 a2_2 false _ A26.out).mono ?_); rintro e w36 ⟨rfl, hb⟩; refine ⟨_, rfl, ?_⟩; replace BK144 := bb_ BK144 hb; replace BK145 := bb_ BK145 hb; replace HB := bt_ HB hb; (try clear hb); obtain ⟨hcz37_0, hcz37_1, hcz37_2, hcz37_3, hfz37_0, hfz37_1, hfz37_2, hfz37_3⟩ := ch4_ BK145; obtain ⟨hcz38_0, hcz38_1, hcz38_2, hcz38_3, hfz38_0, hfz38_1, hfz38_2, hfz38_3⟩ := ch4_ BK144) | (go_at_call 205; (with_reducible refine (spec_l01Holds.calls kj3 a0 a2_0 a2_1 a2_2 a1_0 a1_1 a1_2 t149 _ A32.out).mono ?_); rintro e w39 ⟨rfl, hb⟩; replace BK144 := bb_ BK144 hb; replace BK145 := bb_ BK145 hb; replace HB := bt_ HB hb; (try clear hb)))
  go_ret
  exact ⟨es_, (bw_ HB).out⟩
end Go.Proofs.Ytgoeelhiffbjlaa.QB
