import Derived.Test.YtdfcoebadjhjlaaQIx5
import Derived.Test.YtdfcoebadjhjlaaQIx22
namespace Go.Proofs.Ytdfcoebadjhjlaa.QI
set_option maxHeartbeats 8000000
set_option maxRecDepth 100000
open Go.RowKit Go.Proofs.YtdfcoebadjhjlaaW.PrintWords Go.Proofs.YtdfcoebadjhjlaaW.PrintLast Go.Proofs.YtdfcoebadjhjlaaW.PrintMore
attribute [local go_sem] isSome_setCell max2_int min2_int max_two min_two max_three min_three max_four min_four
set_option linter.unusedVariables false
set_option linter.unusedSimpArgs false

attribute [local go_sem high] eqA31
/-! ### spec_l01Holds: function 41 -/
def spec_l01Holds.f (k : Nat) (a0 a1_0 a1_1 a1_2 a2_0 a2_1 a2_2 : Int) : Option (Bool) := if a1_0 > a2_0 then (some false) else ((spec_l01Power.f k a0 a2_2).bind fun t153 => ((spec_l01Of.f k a0 a2_1 t153 a1_0).bind fun bt154 => (if bt154.2.2.2 = true then (some (bt154.1 == a1_0 && (bt154.2.1 == a1_1 && (bt154.2.2.1 == a1_2)))) else (some false))))
def spec_l01Holds.T3 : Bool × List (List Nat × List Nat) := (true, [([], []), ([], []), ([1], [1]), ([], []), ([], []), ([4], [4]), ([3, 5], [3, 5]), ([], []), ([7], [7]), ([0, 2, 6, 8, 6], [0, 2, 6, 8]), ([9], [9]), ([10], [10]), ([10], [10]), ([], []), ([13, 11, 9, 0, 1, 2, 3, 4, 5, 6, 7, 8, 9, 10, 11, 13], [11, 13]), ([12, 14, 0, 1, 2, 3, 4, 5, 6, 7, 8, 9, 10, 11, 12, 13, 14], [12])])
def spec_l01Holds.B3 : List Nat := [0, 0, 2, 0, 0, 16, 56, 0, 128, 511, 1023, 2047, 2047, 0, 12287, 32767]
theorem spec_l01Holds.tab3 : rtab .any (opsOf Try.f41 3) = spec_l01Holds.T3 := by kernel_rfl
theorem spec_l01Holds.bits3 : waitsOk spec_l01Holds.T3.2 spec_l01Holds.B3 = true := by kernel_rfl
theorem spec_l01Holds.calls (k : Nat) (a0 a1_0 a1_1 a1_2 a2_0 a2_1 a2_2 : Int) (r : Bool) (w : World) (h : spec_l01Holds.f k a0 a1_0 a1_1 a1_2 a2_0 a2_1 a2_2 = some r) :
  Calls Try.prog 41 #[.int .i64 a0, .agg #[.int .i64 a1_0, .int .i64 a1_1, .int .i64 a1_2], .agg #[.int .i64 a2_0, .int .i64 a2_1, .int .i64 a2_2]] w fun e w' => e = .returned (.bool r) ∧ Below w.heap.size w w' := by
 have hu31 := Try.underlying31
 have HB := Aside0.mk (Below.refl w.heap.size w)
 unfold spec_l01Holds.f at h
 have H := h
 clear h
 replace H := ig_ H
 rcases H with ⟨c4b0, H⟩ | ⟨c4b0, H⟩
 ·obtain rfl := si_ H
  go_enter Try.func41, Try.ntmps41
  go_wp2_with (first | ((refine gd_ 4 ?_); refine by_ 4 #[.int .i64 a1_0, .int .i64 a1_1, .int .i64 a1_2] 31 HB ?_; intro gb151 hg w5 BK151 hb GW151 HB_; replace HB := HB_; clear hb hg) | ((refine gd_ 5 ?_); refine by_ 5 #[.int .i64 a2_0, .int .i64 a2_1, .int .i64 a2_2] 31 HB ?_; intro gb152 hg w6 BK152 hb GW152 HB_; have NB151_152 := bm_ BK151 hg; have NB152_151 := bn_ BK151 hg; replace BK151 := bb_ BK151 hb; replace HB := HB_; clear hb hg; have hnb7 := NB151_152.out; have hnc7 := NB152_151.out; obtain ⟨hcz8_0, hcz8_1, hcz8_2, hfz8_0, hfz8_1, hfz8_2⟩ := ch3_ BK151; obtain ⟨hcz9_0, hcz9_1, hcz9_2, hfz9_0, hfz9_1, hfz9_2⟩ := ch3_ BK152))
  go_ret
  exact ⟨es_, (bw_ HB).out⟩
 replace H := oc_ H
 obtain ⟨t153, A10, H⟩ := H
 replace H := oc_ H
 obtain ⟨⟨t154, t155, t156, t157⟩, A11, H⟩ := H
 replace H := ib_ H
 rcases H with ⟨rfl, H⟩ | ⟨rfl, H⟩
 ·obtain rfl := si_ H
  go_enter Try.func41, Try.ntmps41
  try go_wp2_with (first | ((refine gd_ 4 ?_); refine by_ 4 #[.int .i64 a1_0, .int .i64 a1_1, .int .i64 a1_2] 31 HB ?_; intro gb151 hg w13 BK151 hb GW151 HB_; replace HB := HB_; clear hb hg) | ((refine gd_ 5 ?_); refine by_ 5 #[.int .i64 a2_0, .int .i64 a2_1, .int .i64 a2_2] 31 HB ?_; intro gb152 hg w14 BK152 hb GW152 HB_; have NB151_152 := bm_ BK151 hg; have NB152_151 := bn_ BK151 hg; replace BK151 := bb_ BK151 hb; replace HB := HB_; clear hb hg; have hnb15 := NB151_152.out; have hnc15 := NB152_151.out; obtain ⟨hcz16_0, hcz16_1, hcz16_2, hfz16_0, hfz16_1, hfz16_2⟩ := ch3_ BK151; obtain ⟨hcz17_0, hcz17_1, hcz17_2, hfz17_0, hfz17_1, hfz17_2⟩ := ch3_ BK152))
  replace BK151 := bd_ BK151
  replace BK152 := bd_ BK152
  replace HB := be_ HB
  refine start_ (n := 16) (S := fun w' => w'.cell? ⟨gb152, 0, none⟩ = some (.int .i64 a2_0) ∧ w'.cell? ⟨gb152, 1, none⟩ = some (.int .i64 a2_1) ∧ w'.cell? ⟨gb152, 2, none⟩ = some (.int .i64 a2_2) ∧ w'.cell? ⟨gb151, 0, none⟩ = some (.int .i64 a1_0) ∧ w'.cell? ⟨gb151, 1, none⟩ = some (.int .i64 a1_1) ∧ w'.cell? ⟨gb151, 2, none⟩ = some (.int .i64 a1_2)) (ds := []) (bv_ 16 0) (by kernel_rfl) rfl rfl ⟨cz_ BK152 0, cz_ BK152 1, cz_ BK152 2, cz_ BK151 0, cz_ BK151 1, cz_ BK151 2⟩ (fun hHeld => ?_); refine with_tabW spec_l01Holds.tab3 spec_l01Holds.bits3 (fun HT_ HW_ => ?_)
  generalize w14.drew = w18 at BK151 BK152 HB hHeld ⊢
  refine px_ HT_ 0 15 1 ?_
  refine px_ HT_ 1 16 3 ?_
  refine px_ HT_ 3 18 11 ?_
  refine px_ HT_ 4 19 27 ?_
  refine px_ HT_ 7 22 155 ?_
  refine ta_ HT_ HW_ 2 (some 17) (bv_ 16 159) hHeld ?_ (hy := by rintro w' ⟨s0, s1, s2, s3, s4, s5⟩; go_simp; with_reducible rfl)
  refine ta_ HT_ HW_ 5 (some 20) (bv_ 16 191) hHeld ?_ (hy := by rintro w' ⟨s0, s1, s2, s3, s4, s5⟩; go_simp; with_reducible rfl)
  refine ta_ HT_ HW_ 8 (some 23) (bv_ 16 447) hHeld ?_ (hy := by rintro w' ⟨s0, s1, s2, s3, s4, s5⟩; go_simp; with_reducible rfl)
  refine join_ (σ := Nat) 2 (bv_ 16 16383) (fun s_ => [(21, .int .i64 t153), (24, .tuple #[.agg #[.int .i64 t154, .int .i64 t155, .int .i64 t156], .bool true]), (7, .pointer (some ⟨s_, 0, none⟩)), (14, .tuple #[.agg #[.int .i64 t154, .int .i64 t155, .int .i64 t156], .bool true]), (25, .agg #[.int .i64 t154, .int .i64 t155, .int .i64 t156]), (26, .bool true)]) (fun s_ w' => (w'.cell? ⟨gb152, 0, none⟩ = some (.int .i64 a2_0) ∧ w'.cell? ⟨gb152, 1, none⟩ = some (.int .i64 a2_1) ∧ w'.cell? ⟨gb152, 2, none⟩ = some (.int .i64 a2_2) ∧ w'.cell? ⟨gb151, 0, none⟩ = some (.int .i64 a1_0) ∧ w'.cell? ⟨gb151, 1, none⟩ = some (.int .i64 a1_1) ∧ w'.cell? ⟨gb151, 2, none⟩ = some (.int .i64 a1_2)) ∧ (w'.heap[gb151]? = some (.cells #[.int .i64 a1_0, .int .i64 a1_1, .int .i64 a1_2] 31 (0, 0))) ∧ (w'.heap[gb152]? = some (.cells #[.int .i64 a2_0, .int .i64 a2_1, .int .i64 a2_2] 31 (0, 0))) ∧ (w'.heap[s_]? = some (.cells #[.int .i64 0, .int .i64 0, .int .i64 0] 31 (0, 0))) ∧ (w.heap.size ≤ s_) ∧ (w.heap.size ≤ s_) ∧ (gb151 ≠ s_) ∧ (s_ ≠ gb151) ∧ (gb152 ≠ s_) ∧ (s_ ≠ gb152) ∧ (Below w.heap.size w w')) ?_ ?_
  rotate_left
  ·intro hCont
   refine tw_ HT_ 6 13 (some 21) (some 7) (bv_ 16 511) (bv_ 16 8639) (fun K hK => ?_) (fun K hK => ?_)
   ·skip
    refine gs_ Try.func68 #[.int .i64 a0, .int .i64 a2_2] ?_
    with_reducible refine (spec_l01Power.calls k a0 a2_2 t153 _ A10.out).mono ?_
    rintro e w' ⟨rfl, ⟨nd, rfl⟩⟩
    refine ⟨_, rfl, ?_⟩
    refine hK.out _ _ ⟨cz_ BK152 0, cz_ BK152 1, cz_ BK152 2, cz_ BK151 0, cz_ BK151 1, cz_ BK151 2⟩ (fun hHeld => ?_)
    clear hK K
    refine nm_ (some 21) ?_
    refine tw_ HT_ 9 13 (some 24) (some 7) (bv_ 16 1023) (bv_ 16 8703) (fun K hK => ?_) (fun K hK => ?_)
    ·skip
     refine gs_ Try.func75 #[.int .i64 a0, .int .i64 a2_1, .int .i64 t153, .int .i64 a1_0] ?_
     with_reducible refine (spec_l01Of.calls k a0 a2_1 t153 a1_0 t154 t155 t156 true _ A11.out).mono ?_
     rintro e w19 ⟨rfl, hb⟩
     refine ⟨_, rfl, ?_⟩
     replace BK151 := bb_ BK151 hb
     replace BK152 := bb_ BK152 hb
     replace HB := bt_ HB hb
     try clear hb
     refine hK.out _ _ ⟨cz_ BK152 0, cz_ BK152 1, cz_ BK152 2, cz_ BK151 0, cz_ BK151 1, cz_ BK151 2⟩ (fun hHeld => ?_)
     clear hK K
     refine nm_ (some 24) ?_
     refine px_ HT_ 10 14 2047 ?_
     refine px_ HT_ 11 25 4095 ?_
     refine px_ HT_ 12 26 8191 ?_
     refine on_ HT_ 13 (some 7) (bv_ 16 16383) (fun K hK => ?_)
     refine bz_ 7 #[.int .i64 0, .int .i64 0, .int .i64 0] 31 ?_
     intro gb158 hg w20 BK158 hb
     have GW158 := bs_ HB hg
     have NB151_158 := bm_ BK151 hg
     have NB158_151 := bn_ BK151 hg
     have NB152_158 := bm_ BK152 hg
     have NB158_152 := bn_ BK152 hg
     replace BK151 := bb_ BK151 hb
     replace BK152 := bb_ BK152 hb
     replace HB := bt_ HB hb
     clear hb hg
     refine hK.out _ _ ⟨cz_ BK152 0, cz_ BK152 1, cz_ BK152 2, cz_ BK151 0, cz_ BK151 1, cz_ BK151 2⟩ (fun hHeld => ?_)
     clear hK K
     refine nm_ (some 7) ?_
     exact norm_ (by simp only [putAll, Act.put, lstS, lstZ, lstC]) (hCont (gb158) _ ⟨hHeld, (bl_ BK151).out, (bl_ BK152).out, (bl_ BK158).out, GW158.out, GW158.out, NB151_158.out, NB158_151.out, NB152_158.out, NB158_152.out, (bw_ HB).out⟩)
    skip
    refine bz_ 7 #[.int .i64 0, .int .i64 0, .int .i64 0] 31 ?_
    intro gb158 hg w19 BK158 hb
    have GW158 := bs_ HB hg
    have NB151_158 := bm_ BK151 hg
    have NB158_151 := bn_ BK151 hg
    have NB152_158 := bm_ BK152 hg
    have NB158_152 := bn_ BK152 hg
    replace BK151 := bb_ BK151 hb
    replace BK152 := bb_ BK152 hb
    replace HB := bt_ HB hb
    clear hb hg
    refine hK.out _ _ ⟨cz_ BK152 0, cz_ BK152 1, cz_ BK152 2, cz_ BK151 0, cz_ BK151 1, cz_ BK151 2⟩ (fun hHeld => ?_)
    clear hK K
    refine nm_ (some 7) ?_
    refine on_ HT_ 9 (some 24) (bv_ 16 9215) (fun K hK => ?_)
    refine gs_ Try.func75 #[.int .i64 a0, .int .i64 a2_1, .int .i64 t153, .int .i64 a1_0] ?_
    with_reducible refine (spec_l01Of.calls k a0 a2_1 t153 a1_0 t154 t155 t156 true _ A11.out).mono ?_
    rintro e w20 ⟨rfl, hb⟩
    refine ⟨_, rfl, ?_⟩
    replace BK151 := bb_ BK151 hb
    replace BK152 := bb_ BK152 hb
    replace BK158 := bb_ BK158 hb
    replace HB := bt_ HB hb
    try clear hb
    refine hK.out _ _ ⟨cz_ BK152 0, cz_ BK152 1, cz_ BK152 2, cz_ BK151 0, cz_ BK151 1, cz_ BK151 2⟩ (fun hHeld => ?_)
    clear hK K
    refine nm_ (some 24) ?_
    refine px_ HT_ 10 14 10239 ?_
    refine px_ HT_ 11 25 12287 ?_
    refine px_ HT_ 12 26 16383 ?_
    exact norm_ (by simp only [putAll, Act.put, lstS, lstZ, lstC]) (hCont (gb158) _ ⟨hHeld, (bl_ BK151).out, (bl_ BK152).out, (bl_ BK158).out, GW158.out, GW158.out, NB151_158.out, NB158_151.out, NB152_158.out, NB158_152.out, (bw_ HB).out⟩)
   skip
   refine bz_ 7 #[.int .i64 0, .int .i64 0, .int .i64 0] 31 ?_
   intro gb158 hg w19 BK158 hb
   have GW158 := bs_ HB hg
   have NB151_158 := bm_ BK151 hg
   have NB158_151 := bn_ BK151 hg
   have NB152_158 := bm_ BK152 hg
   have NB158_152 := bn_ BK152 hg
   replace BK151 := bb_ BK151 hb
   replace BK152 := bb_ BK152 hb
   replace HB := bt_ HB hb
   clear hb hg
   refine hK.out _ _ ⟨cz_ BK152 0, cz_ BK152 1, cz_ BK152 2, cz_ BK151 0, cz_ BK151 1, cz_ BK151 2⟩ (fun hHeld => ?_)
   clear hK K
   refine nm_ (some 7) ?_
   refine on_ HT_ 6 (some 21) (bv_ 16 8703) (fun K hK => ?_)
   refine gs_ Try.func68 #[.int .i64 a0, .int .i64 a2_2] ?_
   with_reducible refine (spec_l01Power.calls k a0 a2_2 t153 _ A10.out).mono ?_
   rintro e w' ⟨rfl, ⟨nd, rfl⟩⟩
   refine ⟨_, rfl, ?_⟩
   refine hK.out _ _ ⟨cz_ BK152 0, cz_ BK152 1, cz_ BK152 2, cz_ BK151 0, cz_ BK151 1, cz_ BK151 2⟩ (fun hHeld => ?_)
   clear hK K
   refine nm_ (some 21) ?_
   refine on_ HT_ 9 (some 24) (bv_ 16 9215) (fun K hK => ?_)
   refine gs_ Try.func75 #[.int .i64 a0, .int .i64 a2_1, .int .i64 t153, .int .i64 a1_0] ?_
   with_reducible refine (spec_l01Of.calls k a0 a2_1 t153 a1_0 t154 t155 t156 true _ A11.out).mono ?_
   rintro e w20 ⟨rfl, hb⟩
   refine ⟨_, rfl, ?_⟩
   replace BK151 := bb_ BK151 hb
   replace BK152 := bb_ BK152 hb
   replace BK158 := bb_ BK158 hb
   replace HB := bt_ HB hb
   try clear hb
   refine hK.out _ _ ⟨cz_ BK152 0, cz_ BK152 1, cz_ BK152 2, cz_ BK151 0, cz_ BK151 1, cz_ BK151 2⟩ (fun hHeld => ?_)
   clear hK K
   refine nm_ (some 24) ?_
   refine px_ HT_ 10 14 10239 ?_
   refine px_ HT_ 11 25 12287 ?_
   refine px_ HT_ 12 26 16383 ?_
   exact norm_ (by simp only [putAll, Act.put, lstS, lstZ, lstC]) (hCont (gb158) _ ⟨hHeld, (bl_ BK151).out, (bl_ BK152).out, (bl_ BK158).out, GW158.out, GW158.out, NB151_158.out, NB158_151.out, NB152_158.out, NB158_152.out, (bw_ HB).out⟩)
  rintro gb158 w21 ⟨hS_, h0_, h1_, h2_, h3_, h4_, h5_, h6_, h7_, h8_, h9_⟩
  clear BK151 BK152 HB
  have BK151 := Aside0.mk h0_
  have BK152 := Aside0.mk h1_
  have BK158 := Aside0.mk h2_
  have GW158 := Aside0.mk h3_
  have GW158 := Aside0.mk h4_
  have NB151_158 := Aside0.mk h5_
  have NB158_151 := Aside0.mk h6_
  have NB152_158 := Aside0.mk h7_
  have NB158_152 := Aside0.mk h8_
  have HB := Aside0.mk h9_
  clear h0_ h1_ h2_ h3_ h4_ h5_ h6_ h7_ h8_ h9_
  have hHeld : w21.cell? ⟨gb152, 0, none⟩ = some (.int .i64 a2_0) ∧ w21.cell? ⟨gb152, 1, none⟩ = some (.int .i64 a2_1) ∧ w21.cell? ⟨gb152, 2, none⟩ = some (.int .i64 a2_2) ∧ w21.cell? ⟨gb151, 0, none⟩ = some (.int .i64 a1_0) ∧ w21.cell? ⟨gb151, 1, none⟩ = some (.int .i64 a1_1) ∧ w21.cell? ⟨gb151, 2, none⟩ = some (.int .i64 a1_2) := hS_
  refine norm_ (a' := ?_) ?_ ?_
  rotate_left
  ·simp only [putAll, Act.put, lstS, lstZ, lstC]
   rfl
  refine on_ HT_ 14 none (bv_ 16 32767) (fun K hK => ?_)
  have hs22 : w21.cell? ⟨gb158, 0, none⟩ = some (.int .i64 0) := (blk_cell BK158.out 0).trans rfl
  have hfs22 := blk_frozen BK158.out 0
  have hns22_0 := NB151_158.out
  have hns22_1 := NB152_158.out
  have hms22_0 := NB158_151.out
  have hms22_1 := NB158_152.out
  have hs23 : w21.cell? ⟨gb158, 1, none⟩ = some (.int .i64 0) := (blk_cell BK158.out 1).trans rfl
  have hfs23 := blk_frozen BK158.out 1
  have hns23_0 := NB151_158.out
  have hns23_1 := NB152_158.out
  have hms23_0 := NB158_151.out
  have hms23_1 := NB158_152.out
  have hs24 : w21.cell? ⟨gb158, 2, none⟩ = some (.int .i64 0) := (blk_cell BK158.out 2).trans rfl
  have hfs24 := blk_frozen BK158.out 2
  have hns24_0 := NB151_158.out
  have hns24_1 := NB152_158.out
  have hms24_0 := NB158_151.out
  have hms24_1 := NB158_152.out
  refine skip_ (w1 := ?_) (by rfl) rfl ?_ ?_
  rotate_left
  ·go_simp
   rfl
  refine hK.out _ _ ⟨(cg_ NB152_158 ((cg_ NB152_158 ((cg_ NB152_158 (hHeld.1)))))), (cg_ NB152_158 ((cg_ NB152_158 ((cg_ NB152_158 (hHeld.2.1)))))), (cg_ NB152_158 ((cg_ NB152_158 ((cg_ NB152_158 (hHeld.2.2.1)))))), (cg_ NB151_158 ((cg_ NB151_158 ((cg_ NB151_158 (hHeld.2.2.2.1)))))), (cg_ NB151_158 ((cg_ NB151_158 ((cg_ NB151_158 (hHeld.2.2.2.2.1)))))), (cg_ NB151_158 ((cg_ NB151_158 ((cg_ NB151_158 (hHeld.2.2.2.2.2))))))⟩ (fun hHeld => ?_)
  clear hK K
  refine px_ HT_ 15 8 65535 ?_
  refine done_ (done_of HT_.out (by kernel_rfl)) ?_
  have hnb25 := NB158_151.out
  have hnc25 := NB151_158.out
  have hnb26 := NB158_152.out
  have hnc26 := NB152_158.out
  obtain ⟨hcz27_0, hcz27_1, hcz27_2, hfz27_0, hfz27_1, hfz27_2⟩ := ch3_ BK158
  obtain ⟨hcz28_0, hcz28_1, hcz28_2, hfz28_0, hfz28_1, hfz28_2⟩ := ch3_ BK151
  try go_wp2
  go_ret
  exact ⟨es_, (bw_ HB).out⟩
 obtain rfl := si_ H
 go_enter Try.func41, Try.ntmps41
 try go_wp2_with (first | ((refine gd_ 4 ?_); refine by_ 4 #[.int .i64 a1_0, .int .i64 a1_1, .int .i64 a1_2] 31 HB ?_; intro gb151 hg w29 BK151 hb GW151 HB_; replace HB := HB_; clear hb hg) | ((refine gd_ 5 ?_); refine by_ 5 #[.int .i64 a2_0, .int .i64 a2_1, .int .i64 a2_2] 31 HB ?_; intro gb152 hg w30 BK152 hb GW152 HB_; have NB151_152 := bm_ BK151 hg; have NB152_151 := bn_ BK151 hg; replace BK151 := bb_ BK151 hb; replace HB := HB_; clear hb hg; have hnb31 := NB151_152.out; have hnc31 := NB152_151.out; obtain ⟨hcz32_0, hcz32_1, hcz32_2, hfz32_0, hfz32_1, hfz32_2⟩ := ch3_ BK151; obtain ⟨hcz33_0, hcz33_1, hcz33_2, hfz33_0, hfz33_1, hfz33_2⟩ := ch3_ BK152))
 replace BK151 := bd_ BK151
 replace BK152 := bd_ BK152
 replace HB := be_ HB
 refine start_ (n := 16) (S := fun w' => w'.cell? ⟨gb152, 0, none⟩ = some (.int .i64 a2_0) ∧ w'.cell? ⟨gb152, 1, none⟩ = some (.int .i64 a2_1) ∧ w'.cell? ⟨gb152, 2, none⟩ = some (.int .i64 a2_2) ∧ w'.cell? ⟨gb151, 0, none⟩ = some (.int .i64 a1_0) ∧ w'.cell? ⟨gb151, 1, none⟩ = some (.int .i64 a1_1) ∧ w'.cell? ⟨gb151, 2, none⟩ = some (.int .i64 a1_2)) (ds := []) (bv_ 16 0) (by kernel_rfl) rfl rfl ⟨cz_ BK152 0, cz_ BK152 1, cz_ BK152 2, cz_ BK151 0, cz_ BK151 1, cz_ BK151 2⟩ (fun hHeld => ?_); refine with_tabW spec_l01Holds.tab3 spec_l01Holds.bits3 (fun HT_ HW_ => ?_)
 generalize w30.drew = w34 at BK151 BK152 HB hHeld ⊢
 refine px_ HT_ 0 15 1 ?_
 refine px_ HT_ 1 16 3 ?_
 refine px_ HT_ 3 18 11 ?_
 refine px_ HT_ 4 19 27 ?_
 refine px_ HT_ 7 22 155 ?_
 refine ta_ HT_ HW_ 2 (some 17) (bv_ 16 159) hHeld ?_ (hy := by rintro w' ⟨s0, s1, s2, s3, s4, s5⟩; go_simp; with_reducible rfl)
 refine ta_ HT_ HW_ 5 (some 20) (bv_ 16 191) hHeld ?_ (hy := by rintro w' ⟨s0, s1, s2, s3, s4, s5⟩; go_simp; with_reducible rfl)
 refine ta_ HT_ HW_ 8 (some 23) (bv_ 16 447) hHeld ?_ (hy := by rintro w' ⟨s0, s1, s2, s3, s4, s5⟩; go_simp; with_reducible rfl)
 refine join_ (σ := Nat) 2 (bv_ 16 16383) (fun s_ => [(21, .int .i64 t153), (24, .tuple #[.agg #[.int .i64 t154, .int .i64 t155, .int .i64 t156], .bool false]), (7, .pointer (some ⟨s_, 0, none⟩)), (14, .tuple #[.agg #[.int .i64 t154, .int .i64 t155, .int .i64 t156], .bool false]), (25, .agg #[.int .i64 t154, .int .i64 t155, .int .i64 t156]), (26, .bool false)]) (fun s_ w' => (w'.cell? ⟨gb152, 0, none⟩ = some (.int .i64 a2_0) ∧ w'.cell? ⟨gb152, 1, none⟩ = some (.int .i64 a2_1) ∧ w'.cell? ⟨gb152, 2, none⟩ = some (.int .i64 a2_2) ∧ w'.cell? ⟨gb151, 0, none⟩ = some (.int .i64 a1_0) ∧ w'.cell? ⟨gb151, 1, none⟩ = some (.int .i64 a1_1) ∧ w'.cell? ⟨gb151, 2, none⟩ = some (.int .i64 a1_2)) ∧ (w'.heap[gb151]? = some (.cells #[.int .i64 a1_0, .int .i64 a1_1, .int .i64 a1_2] 31 (0, 0))) ∧ (w'.heap[gb152]? = some (.cells #[.int .i64 a2_0, .int .i64 a2_1, .int .i64 a2_2] 31 (0, 0))) ∧ (w'.heap[s_]? = some (.cells #[.int .i64 0, .int .i64 0, .int .i64 0] 31 (0, 0))) ∧ (w.heap.size ≤ s_) ∧ (w.heap.size ≤ s_) ∧ (gb151 ≠ s_) ∧ (s_ ≠ gb151) ∧ (gb152 ≠ s_) ∧ (s_ ≠ gb152) ∧ (Below w.heap.size w w')) ?_ ?_
 rotate_left
 ·intro hCont
  refine tw_ HT_ 6 13 (some 21) (some 7) (bv_ 16 511) (bv_ 16 8639) (fun K hK => ?_) (fun K hK => ?_)
  ·skip
   refine gs_ Try.func68 #[.int .i64 a0, .int .i64 a2_2] ?_
   with_reducible refine (spec_l01Power.calls k a0 a2_2 t153 _ A10.out).mono ?_
   rintro e w' ⟨rfl, ⟨nd, rfl⟩⟩
   refine ⟨_, rfl, ?_⟩
   refine hK.out _ _ ⟨cz_ BK152 0, cz_ BK152 1, cz_ BK152 2, cz_ BK151 0, cz_ BK151 1, cz_ BK151 2⟩ (fun hHeld => ?_)
   clear hK K
   refine nm_ (some 21) ?_
   refine tw_ HT_ 9 13 (some 24) (some 7) (bv_ 16 1023) (bv_ 16 8703) (fun K hK => ?_) (fun K hK => ?_)
   ·skip
    refine gs_ Try.func75 #[.int .i64 a0, .int .i64 a2_1, .int .i64 t153, .int .i64 a1_0] ?_
    with_reducible refine (spec_l01Of.calls k a0 a2_1 t153 a1_0 t154 t155 t156 false _ A11.out).mono ?_
    rintro e w35 ⟨rfl, hb⟩
    refine ⟨_, rfl, ?_⟩
    replace BK151 := bb_ BK151 hb
    replace BK152 := bb_ BK152 hb
    replace HB := bt_ HB hb
    try clear hb
    refine hK.out _ _ ⟨cz_ BK152 0, cz_ BK152 1, cz_ BK152 2, cz_ BK151 0, cz_ BK151 1, cz_ BK151 2⟩ (fun hHeld => ?_)
    clear hK K
    refine nm_ (some 24) ?_
    refine px_ HT_ 10 14 2047 ?_
    refine px_ HT_ 11 25 4095 ?_
    refine px_ HT_ 12 26 8191 ?_
    refine on_ HT_ 13 (some 7) (bv_ 16 16383) (fun K hK => ?_)
    refine bz_ 7 #[.int .i64 0, .int .i64 0, .int .i64 0] 31 ?_
    intro gb158 hg w36 BK158 hb
    have GW158 := bs_ HB hg
    have NB151_158 := bm_ BK151 hg
    have NB158_151 := bn_ BK151 hg
    have NB152_158 := bm_ BK152 hg
    have NB158_152 := bn_ BK152 hg
    replace BK151 := bb_ BK151 hb
    replace BK152 := bb_ BK152 hb
    replace HB := bt_ HB hb
    clear hb hg
    refine hK.out _ _ ⟨cz_ BK152 0, cz_ BK152 1, cz_ BK152 2, cz_ BK151 0, cz_ BK151 1, cz_ BK151 2⟩ (fun hHeld => ?_)
    clear hK K
    refine nm_ (some 7) ?_
    exact norm_ (by simp only [putAll, Act.put, lstS, lstZ, lstC]) (hCont (gb158) _ ⟨hHeld, (bl_ BK151).out, (bl_ BK152).out, (bl_ BK158).out, GW158.out, GW158.out, NB151_158.out, NB158_151.out, NB152_158.out, NB158_152.out, (bw_ HB).out⟩)
   skip
   refine bz_ 7 #[.int .i64 0, .int .i64 0, .int .i64 0] 31 ?_
   intro gb158 hg w35 BK158 hb
   have GW158 := bs_ HB hg
   have NB151_158 := bm_ BK151 hg
   have NB158_151 := bn_ BK151 hg
   have NB152_158 := bm_ BK152 hg
   have NB158_152 := bn_ BK152 hg
   replace BK151 := bb_ BK151 hb
   replace BK152 := bb_ BK152 hb
   replace HB := bt_ HB hb
   clear hb hg
   refine hK.out _ _ ⟨cz_ BK152 0, cz_ BK152 1, cz_ BK152 2, cz_ BK151 0, cz_ BK151 1, cz_ BK151 2⟩ (fun hHeld => ?_)
   clear hK K
   refine nm_ (some 7) ?_
   refine on_ HT_ 9 (some 24) (bv_ 16 9215) (fun K hK => ?_)
   refine gs_ Try.func75 #[.int .i64 a0, .int .i64 a2_1, .int .i64 t153, .int .i64 a1_0] ?_
   with_reducible refine (spec_l01Of.calls k a0 a2_1 t153 a1_0 t154 t155 t156 false _ A11.out).mono ?_
   rintro e w36 ⟨rfl, hb⟩
   refine ⟨_, rfl, ?_⟩
   replace BK151 := bb_ BK151 hb
   replace BK152 := bb_ BK152 hb
   replace BK158 := bb_ BK158 hb
   replace HB := bt_ HB hb
   try clear hb
   refine hK.out _ _ ⟨cz_ BK152 0, cz_ BK152 1, cz_ BK152 2, cz_ BK151 0, cz_ BK151 1, cz_ BK151 2⟩ (fun hHeld => ?_)
   clear hK K
   refine nm_ (some 24) ?_
   refine px_ HT_ 10 14 10239 ?_
   refine px_ HT_ 11 25 12287 ?_
   refine px_ HT_ 12 26 16383 ?_
   exact norm_ (by simp only [putAll, Act.put, lstS, lstZ, lstC]) (hCont (gb158) _ ⟨hHeld, (bl_ BK151).out, (bl_ BK152).out, (bl_ BK158).out, GW158.out, GW158.out, NB151_158.out, NB158_151.out, NB152_158.out, NB158_152.out, (bw_ HB).out⟩)
  skip
  refine bz_ 7 #[.int .i64 0, .int .i64 0, .int .i64 0] 31 ?_
  intro gb158 hg w35 BK158 hb
  have GW158 := bs_ HB hg
  have NB151_158 := bm_ BK151 hg
  have NB158_151 := bn_ BK151 hg
  have NB152_158 := bm_ BK152 hg
  have NB158_152 := bn_ BK152 hg
  replace BK151 := bb_ BK151 hb
  replace BK152 := bb_ BK152 hb
  replace HB := bt_ HB hb
  clear hb hg
  refine hK.out _ _ ⟨cz_ BK152 0, cz_ BK152 1, cz_ BK152 2, cz_ BK151 0, cz_ BK151 1, cz_ BK151 2⟩ (fun hHeld => ?_)
  clear hK K
  refine nm_ (some 7) ?_
  refine on_ HT_ 6 (some 21) (bv_ 16 8703) (fun K hK => ?_)
  refine gs_ Try.func68 #[.int .i64 a0, .int .i64 a2_2] ?_
  with_reducible refine (spec_l01Power.calls k a0 a2_2 t153 _ A10.out).mono ?_
  rintro e w' ⟨rfl, ⟨nd, rfl⟩⟩
  refine ⟨_, rfl, ?_⟩
  refine hK.out _ _ ⟨cz_ BK152 0, cz_ BK152 1, cz_ BK152 2, cz_ BK151 0, cz_ BK151 1, cz_ BK151 2⟩ (fun hHeld => ?_)
  clear hK K
  refine nm_ (some 21) ?_
  refine on_ HT_ 9 (some 24) (bv_ 16 9215) (fun K hK => ?_)
  refine gs_ Try.func75 #[.int .i64 a0, .int .i64 a2_1, .int .i64 t153, .int .i64 a1_0] ?_
  with_reducible refine (spec_l01Of.calls k a0 a2_1 t153 a1_0 t154 t155 t156 false _ A11.out).mono ?_
  rintro e w36 ⟨rfl, hb⟩
  refine ⟨_, rfl, ?_⟩
  replace BK151 := bb_ BK151 hb
  replace BK152 := bb_ BK152 hb
  replace BK158 := bb_ BK158 hb
  replace HB := bt_ HB hb
  try clear hb
  refine hK.out _ _ ⟨cz_ BK152 0, cz_ BK152 1, cz_ BK152 2, cz_ BK151 0, cz_ BK151 1, cz_ BK151 2⟩ (fun hHeld => ?_)
  clear hK K
  refine nm_ (some 24) ?_
  refine px_ HT_ 10 14 10239 ?_
  refine px_ HT_ 11 25 12287 ?_
  refine px_ HT_ 12 26 16383 ?_
  exact norm_ (by simp only [putAll, Act.put, lstS, lstZ, lstC]) (hCont (gb158) _ ⟨hHeld, (bl_ BK151).out, (bl_ BK152).out, (bl_ BK158).out, GW158.out, GW158.out, NB151_158.out, NB158_151.out, NB152_158.out, NB158_152.out, (bw_ HB).out⟩)
 rintro gb158 w37 ⟨hS_, h0_, h1_, h2_, h3_, h4_, h5_, h6_, h7_, h8_, h9_⟩
 clear BK151 BK152 HB
 have BK151 := Aside0.mk h0_
 have BK152 := Aside0.mk h1_
 have BK158 := Aside0.mk h2_
 have GW158 := Aside0.mk h3_
 have GW158 := Aside0.mk h4_
 have NB151_158 := Aside0.mk h5_
 have NB158_151 := Aside0.mk h6_
 have NB152_158 := Aside0.mk h7_
 have NB158_152 := Aside0.mk h8_
 have HB := Aside0.mk h9_
 clear h0_ h1_ h2_ h3_ h4_ h5_ h6_ h7_ h8_ h9_
 have hHeld : w37.cell? ⟨gb152, 0, none⟩ = some (.int .i64 a2_0) ∧ w37.cell? ⟨gb152, 1, none⟩ = some (.int .i64 a2_1) ∧ w37.cell? ⟨gb152, 2, none⟩ = some (.int .i64 a2_2) ∧ w37.cell? ⟨gb151, 0, none⟩ = some (.int .i64 a1_0) ∧ w37.cell? ⟨gb151, 1, none⟩ = some (.int .i64 a1_1) ∧ w37.cell? ⟨gb151, 2, none⟩ = some (.int .i64 a1_2) := hS_
 refine norm_ (a' := ?_) ?_ ?_
 rotate_left
 ·simp only [putAll, Act.put, lstS, lstZ, lstC]
  rfl
 refine on_ HT_ 14 none (bv_ 16 32767) (fun K hK => ?_)
 have hs38 : w37.cell? ⟨gb158, 0, none⟩ = some (.int .i64 0) := (blk_cell BK158.out 0).trans rfl
 have hfs38 := blk_frozen BK158.out 0
 have hns38_0 := NB151_158.out
 have hns38_1 := NB152_158.out
 have hms38_0 := NB158_151.out
 have hms38_1 := NB158_152.out
 have hs39 : w37.cell? ⟨gb158, 1, none⟩ = some (.int .i64 0) := (blk_cell BK158.out 1).trans rfl
 have hfs39 := blk_frozen BK158.out 1
 have hns39_0 := NB151_158.out
 have hns39_1 := NB152_158.out
 have hms39_0 := NB158_151.out
 have hms39_1 := NB158_152.out
 have hs40 : w37.cell? ⟨gb158, 2, none⟩ = some (.int .i64 0) := (blk_cell BK158.out 2).trans rfl
 have hfs40 := blk_frozen BK158.out 2
 have hns40_0 := NB151_158.out
 have hns40_1 := NB152_158.out
 have hms40_0 := NB158_151.out
 have hms40_1 := NB158_152.out
 refine skip_ (w1 := ?_) (by rfl) rfl ?_ ?_
 rotate_left
 ·go_simp
  rfl
 refine hK.out _ _ ⟨(cg_ NB152_158 ((cg_ NB152_158 ((cg_ NB152_158 (hHeld.1)))))), (cg_ NB152_158 ((cg_ NB152_158 ((cg_ NB152_158 (hHeld.2.1)))))), (cg_ NB152_158 ((cg_ NB152_158 ((cg_ NB152_158 (hHeld.2.2.1)))))), (cg_ NB151_158 ((cg_ NB151_158 ((cg_ NB151_158 (hHeld.2.2.2.1)))))), (cg_ NB151_158 ((cg_ NB151_158 ((cg_ NB151_158 (hHeld.2.2.2.2.1)))))), (cg_ NB151_158 ((cg_ NB151_158 ((cg_ NB151_158 (hHeld.2.2.2.2.2))))))⟩ (fun hHeld => ?_)
 clear hK K
 refine px_ HT_ 15 8 65535 ?_
 refine done_ (done_of HT_.out (by kernel_rfl)) ?_
 try go_wp2
 go_ret
 exact ⟨es_, (bw_ HB).out⟩
/-! ### spec_l01Prime: function 88 -/
def spec_l01Prime.f (a0 : Int) : Option (Bool) := if a0 = 2 then (some true) else (if a0 = 3 then (some true) else (if a0 = 5 then (some true) else (some (a0 == 7))))
theorem spec_l01Prime.calls (a0 : Int) (r : Bool) (w : World) (h : spec_l01Prime.f a0 = some r) :
  Calls Try.prog 88 #[.int .i64 a0] w fun e w' => e = .returned (.bool r) ∧ Drawn0 w w' := by
 unfold spec_l01Prime.f at h
 have H := h
 clear h
 replace H := ie_ H
 rcases H with ⟨c2b0, c2b1, H⟩ | ⟨c2, c2b0, c2b1, H⟩
 ·obtain rfl := si_ H
  go_enter Try.func88, Try.ntmps88
  go_wp2
  go_ret
  exact ⟨en_, de_⟩
 replace H := ie_ H
 rcases H with ⟨c3b0, c3b1, H⟩ | ⟨c3, c3b0, c3b1, H⟩
 ·obtain rfl := si_ H
  go_enter Try.func88, Try.ntmps88
  go_wp2
  go_ret
  exact ⟨en_, de_⟩
 replace H := ie_ H
 rcases H with ⟨c4b0, c4b1, H⟩ | ⟨c4, c4b0, c4b1, H⟩
 ·obtain rfl := si_ H
  go_enter Try.func88, Try.ntmps88
  go_wp2
  go_ret
  exact ⟨en_, de_⟩
 obtain rfl := si_ H
 go_enter Try.func88, Try.ntmps88
 go_wp2
 go_ret
 exact ⟨en_, de_⟩
end Go.Proofs.Ytdfcoebadjhjlaa.QI
