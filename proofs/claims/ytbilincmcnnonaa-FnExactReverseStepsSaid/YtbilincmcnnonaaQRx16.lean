import Derived.Test.YtbilincmcnnonaaQRx8
import Derived.Test.YtbilincmcnnonaaQRx13
namespace Go.Proofs.Ytbilincmcnnonaa.QR
set_option maxHeartbeats 8000000
set_option maxRecDepth 100000
open Go.RowKit Go.Proofs.YtbilincmcnnonaaW.PrintWords Go.Proofs.YtbilincmcnnonaaW.PrintLast Go.Proofs.YtbilincmcnnonaaW.PrintMore
attribute [local go_sem] isSome_setCell max2_int min2_int max_two min_two max_three min_three max_four min_four
set_option linter.unusedVariables false
set_option linter.unusedSimpArgs false

/-! ### spec_l01Parent: function 159 -/
def spec_l01Parent.f (k : Nat) (a0 : Int) (a1_0 : Int) (a1_1 : Int) (a1_2 : Int) : Option (Int × Int × Int × Bool) := (spec_l01Power.f k a0 a1_2).bind fun t127 => ((spec_l01Of.f k a0 a1_1 t127 (wrap64 (a1_0 - 1))).bind fun bt128 => (some (bt128.1, bt128.2.1, bt128.2.2.1, bt128.2.2.2)))
def spec_l01Parent.T1 : Bool × List (List Nat × List Nat) := (true, [([], []), ([], []), ([1], [1]), ([], []), ([], []), ([4], [4]), ([3, 5], [3, 5]), ([], []), ([7], [7]), ([8], [8]), ([0, 2, 6, 9, 6], [0, 2, 6, 9]), ([10], [10]), ([11], [11]), ([11], [11]), ([], []), ([14, 12, 10, 0, 1, 2, 3, 4, 5, 6, 7, 8, 9, 10, 11, 12, 14], [12, 14]), ([13, 15, 0, 1, 2, 3, 4, 5, 6, 7, 8, 9, 10, 11, 12, 13, 14, 15], [13])])
def spec_l01Parent.B1 : List Nat := [0, 0, 2, 0, 0, 16, 56, 0, 128, 384, 1023, 2047, 4095, 4095, 0, 24575, 65535]
theorem spec_l01Parent.tab1 : rtab .any (opsOf Try.f159 1) = spec_l01Parent.T1 := by kernel_rfl
theorem spec_l01Parent.bits1 : waitsOk spec_l01Parent.T1.2 spec_l01Parent.B1 = true := by kernel_rfl
theorem spec_l01Parent.calls (k : Nat) (a0 : Int) (a1_0 : Int) (a1_1 : Int) (a1_2 : Int) (r1 : Int) (r2 : Int) (r3 : Int) (r4 : Bool) (w : World) (h : spec_l01Parent.f k a0 a1_0 a1_1 a1_2 = some (r1, r2, r3, r4)) :
  Calls Try.prog 159 #[.int .i64 a0, .agg #[.int .i64 a1_0, .int .i64 a1_1, .int .i64 a1_2]] w fun e w' => e = .returned (.tuple #[.agg #[.int .i64 r1, .int .i64 r2, .int .i64 r3], .bool r4]) ∧ Below w.heap.size w w' := by
 have hu39 := Try.underlying39
 have HB := Aside0.mk (Below.refl w.heap.size w)
 have H : ((spec_l01Power.f k a0 a1_2).bind fun t127 => ((spec_l01Of.f k a0 a1_1 t127 (wrap64 (a1_0 - 1))).bind fun bt128 => (some (bt128.1, bt128.2.1, bt128.2.2.1, bt128.2.2.2)))) = some (r1, r2, r3, r4) := h
 clear h
 replace H := ob_ H
 obtain ⟨t127, A30, H⟩ := H
 have A3 := Aside0.mk A30
 clear A30
 replace H := ob_ H
 obtain ⟨⟨t128, t129, t130, t131⟩, A40, H⟩ := H
 have A4 := Aside0.mk A40
 clear A40
 simp only [Option.some.injEq, Prod.mk.injEq] at H
 obtain ⟨rfl, rfl, rfl, rfl⟩ := H
 go_enter Try.func159, Try.ntmps159
 try go_wp2_with (first | ((refine gd_ 3 ?_); refine bx_ 3 #[.int .i64 a1_0, .int .i64 a1_1, .int .i64 a1_2] 39 ?_; intro gb125 hg w5 BK125 hb; have GW125 := bs_ HB hg; have GE125 := bs_ HB hg; replace HB := bt_ HB hb; clear hb hg) | ((refine gd_ 4 ?_); refine bx_ 4 #[.int .i64 0, .int .i64 0, .int .i64 0] 39 ?_; intro gb126 hg w6 BK126 hb; have GW126 := bs_ HB hg; have GE126 := bs_ HB hg; have NB125_126 := bm_ BK125 hg; have NB126_125 := bn_ BK125 hg; replace BK125 := bb_ BK125 hb; replace HB := bt_ HB hb; clear hb hg))
 replace BK125 := Aside0.mk (blk_drew BK125.out)
 replace BK126 := Aside0.mk (blk_drew BK126.out)
 replace HB := Aside0.mk (below_drew1 HB.out)
 refine start_ (n := 17) (S := fun w' => w'.cell? ⟨gb125, 0, none⟩ = some (.int .i64 a1_0) ∧ w'.cell? ⟨gb125, 1, none⟩ = some (.int .i64 a1_1) ∧ w'.cell? ⟨gb125, 2, none⟩ = some (.int .i64 a1_2)) (ds := []) (bv_ 17 0) (by kernel_rfl) rfl rfl ⟨cz_ BK125 0, cz_ BK125 1, cz_ BK125 2⟩ (fun hHeld => ?_); refine with_tabW spec_l01Parent.tab1 spec_l01Parent.bits1 (fun HT_ HW_ => ?_)
 generalize w6.drew = w7 at BK125 BK126 HB hHeld ⊢
 refine px_ HT_ 0 9 1 ?_
 refine px_ HT_ 1 10 3 ?_
 refine px_ HT_ 3 12 11 ?_
 refine px_ HT_ 4 13 27 ?_
 refine px_ HT_ 7 16 155 ?_
 refine ta_ HT_ HW_ 2 (some 11) (bv_ 17 159) hHeld ?_ (hy := by rintro w' ⟨s0, s1, s2⟩; go_simp; with_reducible rfl)
 refine ta_ HT_ HW_ 5 (some 14) (bv_ 17 191) hHeld ?_ (hy := by rintro w' ⟨s0, s1, s2⟩; go_simp; with_reducible rfl)
 refine ta_ HT_ HW_ 8 (some 17) (bv_ 17 447) hHeld ?_ (hy := by rintro w' ⟨s0, s1, s2⟩; go_simp; with_reducible rfl)
 refine px_ HT_ 9 18 959 ?_
 refine join_ (σ := Nat) 2 (bv_ 17 32767) (fun s_ => [(15, .int .i64 t127), (19, .tuple #[.agg #[.int .i64 t128, .int .i64 t129, .int .i64 t130], .bool t131]), (6, .pointer (some ⟨s_, 0, none⟩)), (8, .tuple #[.agg #[.int .i64 t128, .int .i64 t129, .int .i64 t130], .bool t131]), (20, .agg #[.int .i64 t128, .int .i64 t129, .int .i64 t130]), (21, .bool t131)]) (fun s_ w' => (w'.cell? ⟨gb125, 0, none⟩ = some (.int .i64 a1_0) ∧ w'.cell? ⟨gb125, 1, none⟩ = some (.int .i64 a1_1) ∧ w'.cell? ⟨gb125, 2, none⟩ = some (.int .i64 a1_2)) ∧ (w'.heap[gb125]? = some (.cells #[.int .i64 a1_0, .int .i64 a1_1, .int .i64 a1_2] 39 (0, 0))) ∧ (w'.heap[gb126]? = some (.cells #[.int .i64 0, .int .i64 0, .int .i64 0] 39 (0, 0))) ∧ (w'.heap[s_]? = some (.cells #[.int .i64 0, .int .i64 0, .int .i64 0] 39 (0, 0))) ∧ (w.heap.size ≤ s_) ∧ (w.heap.size ≤ s_) ∧ (gb125 ≠ s_) ∧ (s_ ≠ gb125) ∧ (gb126 ≠ s_) ∧ (s_ ≠ gb126) ∧ (Below w.heap.size w w')) ?_ ?_
 rotate_left
 ·intro hCont
  refine tw_ HT_ 6 14 (some 15) (some 6) (bv_ 17 1023) (bv_ 17 17343) (fun K hK => ?_) (fun K hK => ?_)
  ·skip
   refine gs_ Try.func156 #[.int .i64 a0, .int .i64 a1_2] ?_
   with_reducible refine (spec_l01Power.calls k a0 a1_2 t127 _ A3.out).mono ?_
   rintro e w' ⟨rfl, ⟨nd, rfl⟩⟩
   refine ⟨_, rfl, ?_⟩
   refine hK.out _ _ ⟨cz_ BK125 0, cz_ BK125 1, cz_ BK125 2⟩ (fun hHeld => ?_)
   clear hK K
   refine nm_ (some 15) ?_
   refine tw_ HT_ 10 14 (some 19) (some 6) (bv_ 17 2047) (bv_ 17 17407) (fun K hK => ?_) (fun K hK => ?_)
   ·skip
    refine gs_ Try.func157 #[.int .i64 a0, .int .i64 a1_1, .int .i64 t127, .int .i64 (wrap64 (a1_0 - 1))] ?_
    with_reducible refine (spec_l01Of.calls k a0 a1_1 t127 (wrap64 (a1_0 - 1)) t128 t129 t130 t131 _ A4.out).mono ?_
    rintro e w8 ⟨rfl, hb⟩
    refine ⟨_, rfl, ?_⟩
    replace BK125 := bb_ BK125 hb
    replace BK126 := bb_ BK126 hb
    replace HB := bt_ HB hb
    (try clear hb)
    (try clear hb2)
    (try clear hk)
    (try clear hi)
    refine hK.out _ _ ⟨cz_ BK125 0, cz_ BK125 1, cz_ BK125 2⟩ (fun hHeld => ?_)
    clear hK K
    refine nm_ (some 19) ?_
    refine px_ HT_ 11 8 4095 ?_
    refine px_ HT_ 12 20 8191 ?_
    refine px_ HT_ 13 21 16383 ?_
    refine on_ HT_ 14 (some 6) (bv_ 17 32767) (fun K hK => ?_)
    refine bz_ 6 #[.int .i64 0, .int .i64 0, .int .i64 0] 39 ?_
    intro gb132 hg w9 BK132 hb
    have GW132 := bs_ HB hg
    have GE132 := bs_ HB hg
    have NB125_132 := bm_ BK125 hg
    have NB132_125 := bn_ BK125 hg
    have NB126_132 := bm_ BK126 hg
    have NB132_126 := bn_ BK126 hg
    replace BK125 := bb_ BK125 hb
    replace BK126 := bb_ BK126 hb
    replace HB := bt_ HB hb
    clear hb hg
    refine hK.out _ _ ⟨cz_ BK125 0, cz_ BK125 1, cz_ BK125 2⟩ (fun hHeld => ?_)
    clear hK K
    refine nm_ (some 6) ?_
    exact norm_ (by simp only [putAll, Act.put, lstS, lstZ, lstC]) (hCont (gb132) _ ⟨hHeld, (bl_ BK125).out, (bl_ BK126).out, (bl_ BK132).out, GW132.out, GE132.out, NB125_132.out, NB132_125.out, NB126_132.out, NB132_126.out, (bw_ HB).out⟩)
   ·skip
    refine bz_ 6 #[.int .i64 0, .int .i64 0, .int .i64 0] 39 ?_
    intro gb132 hg w8 BK132 hb
    have GW132 := bs_ HB hg
    have GE132 := bs_ HB hg
    have NB125_132 := bm_ BK125 hg
    have NB132_125 := bn_ BK125 hg
    have NB126_132 := bm_ BK126 hg
    have NB132_126 := bn_ BK126 hg
    replace BK125 := bb_ BK125 hb
    replace BK126 := bb_ BK126 hb
    replace HB := bt_ HB hb
    clear hb hg
    refine hK.out _ _ ⟨cz_ BK125 0, cz_ BK125 1, cz_ BK125 2⟩ (fun hHeld => ?_)
    clear hK K
    refine nm_ (some 6) ?_
    refine on_ HT_ 10 (some 19) (bv_ 17 18431) (fun K hK => ?_)
    refine gs_ Try.func157 #[.int .i64 a0, .int .i64 a1_1, .int .i64 t127, .int .i64 (wrap64 (a1_0 - 1))] ?_
    with_reducible refine (spec_l01Of.calls k a0 a1_1 t127 (wrap64 (a1_0 - 1)) t128 t129 t130 t131 _ A4.out).mono ?_
    rintro e w9 ⟨rfl, hb⟩
    refine ⟨_, rfl, ?_⟩
    replace BK125 := bb_ BK125 hb
    replace BK126 := bb_ BK126 hb
    replace BK132 := bb_ BK132 hb
    replace HB := bt_ HB hb
    (try clear hb)
    (try clear hb2)
    (try clear hk)
    (try clear hi)
    refine hK.out _ _ ⟨cz_ BK125 0, cz_ BK125 1, cz_ BK125 2⟩ (fun hHeld => ?_)
    clear hK K
    refine nm_ (some 19) ?_
    refine px_ HT_ 11 8 20479 ?_
    refine px_ HT_ 12 20 24575 ?_
    refine px_ HT_ 13 21 32767 ?_
    exact norm_ (by simp only [putAll, Act.put, lstS, lstZ, lstC]) (hCont (gb132) _ ⟨hHeld, (bl_ BK125).out, (bl_ BK126).out, (bl_ BK132).out, GW132.out, GE132.out, NB125_132.out, NB132_125.out, NB126_132.out, NB132_126.out, (bw_ HB).out⟩)
  ·skip
   refine bz_ 6 #[.int .i64 0, .int .i64 0, .int .i64 0] 39 ?_
   intro gb132 hg w8 BK132 hb
   have GW132 := bs_ HB hg
   have GE132 := bs_ HB hg
   have NB125_132 := bm_ BK125 hg
   have NB132_125 := bn_ BK125 hg
   have NB126_132 := bm_ BK126 hg
   have NB132_126 := bn_ BK126 hg
   replace BK125 := bb_ BK125 hb
   replace BK126 := bb_ BK126 hb
   replace HB := bt_ HB hb
   clear hb hg
   refine hK.out _ _ ⟨cz_ BK125 0, cz_ BK125 1, cz_ BK125 2⟩ (fun hHeld => ?_)
   clear hK K
   refine nm_ (some 6) ?_
   refine on_ HT_ 6 (some 15) (bv_ 17 17407) (fun K hK => ?_)
   refine gs_ Try.func156 #[.int .i64 a0, .int .i64 a1_2] ?_
   with_reducible refine (spec_l01Power.calls k a0 a1_2 t127 _ A3.out).mono ?_
   rintro e w' ⟨rfl, ⟨nd, rfl⟩⟩
   refine ⟨_, rfl, ?_⟩
   refine hK.out _ _ ⟨cz_ BK125 0, cz_ BK125 1, cz_ BK125 2⟩ (fun hHeld => ?_)
   clear hK K
   refine nm_ (some 15) ?_
   refine on_ HT_ 10 (some 19) (bv_ 17 18431) (fun K hK => ?_)
   refine gs_ Try.func157 #[.int .i64 a0, .int .i64 a1_1, .int .i64 t127, .int .i64 (wrap64 (a1_0 - 1))] ?_
   with_reducible refine (spec_l01Of.calls k a0 a1_1 t127 (wrap64 (a1_0 - 1)) t128 t129 t130 t131 _ A4.out).mono ?_
   rintro e w9 ⟨rfl, hb⟩
   refine ⟨_, rfl, ?_⟩
   replace BK125 := bb_ BK125 hb
   replace BK126 := bb_ BK126 hb
   replace BK132 := bb_ BK132 hb
   replace HB := bt_ HB hb
   (try clear hb)
   (try clear hb2)
   (try clear hk)
   (try clear hi)
   refine hK.out _ _ ⟨cz_ BK125 0, cz_ BK125 1, cz_ BK125 2⟩ (fun hHeld => ?_)
   clear hK K
   refine nm_ (some 19) ?_
   refine px_ HT_ 11 8 20479 ?_
   refine px_ HT_ 12 20 24575 ?_
   refine px_ HT_ 13 21 32767 ?_
   exact norm_ (by simp only [putAll, Act.put, lstS, lstZ, lstC]) (hCont (gb132) _ ⟨hHeld, (bl_ BK125).out, (bl_ BK126).out, (bl_ BK132).out, GW132.out, GE132.out, NB125_132.out, NB132_125.out, NB126_132.out, NB132_126.out, (bw_ HB).out⟩)
 rintro gb132 w10 ⟨hS_, h0_, h1_, h2_, h3_, h4_, h5_, h6_, h7_, h8_, h9_⟩
 have n0_ : Aside0 (w10.heap[gb125]? = some (.cells #[.int .i64 a1_0, .int .i64 a1_1, .int .i64 a1_2] 39 (0, 0))) := ⟨h0_⟩
 have n1_ : Aside0 (w10.heap[gb126]? = some (.cells #[.int .i64 0, .int .i64 0, .int .i64 0] 39 (0, 0))) := ⟨h1_⟩
 have n2_ : Aside0 (w10.heap[gb132]? = some (.cells #[.int .i64 0, .int .i64 0, .int .i64 0] 39 (0, 0))) := ⟨h2_⟩
 have n3_ : Aside0 (w.heap.size ≤ gb132) := ⟨h3_⟩
 have n4_ : Aside0 (w.heap.size ≤ gb132) := ⟨h4_⟩
 have n5_ : Aside0 (gb125 ≠ gb132) := ⟨h5_⟩
 have n6_ : Aside0 (gb132 ≠ gb125) := ⟨h6_⟩
 have n7_ : Aside0 (gb126 ≠ gb132) := ⟨h7_⟩
 have n8_ : Aside0 (gb132 ≠ gb126) := ⟨h8_⟩
 have n9_ : Aside0 (Below w.heap.size w w10) := ⟨h9_⟩
 clear BK125
 clear BK126
 clear HB
 clear h0_ h1_ h2_ h3_ h4_ h5_ h6_ h7_ h8_ h9_
 have BK125 := n0_
 have BK126 := n1_
 have BK132 := n2_
 have GW132 := n3_
 have GE132 := n4_
 have NB125_132 := n5_
 have NB132_125 := n6_
 have NB126_132 := n7_
 have NB132_126 := n8_
 have HB := n9_
 clear n0_ n1_ n2_ n3_ n4_ n5_ n6_ n7_ n8_ n9_
 have hHeld : w10.cell? ⟨gb125, 0, none⟩ = some (.int .i64 a1_0) ∧ w10.cell? ⟨gb125, 1, none⟩ = some (.int .i64 a1_1) ∧ w10.cell? ⟨gb125, 2, none⟩ = some (.int .i64 a1_2) := hS_
 refine norm_ (a' := ?_) ?_ ?_
 rotate_left
 ·simp only [putAll, Act.put, lstS, lstZ, lstC]
  rfl
 refine on_ HT_ 15 none (bv_ 17 65535) (fun K hK => ?_)
 have hs11 : w10.cell? ⟨gb132, 0, none⟩ = some (.int .i64 0) := (blk_cell BK132.out 0).trans rfl
 have hfs11 := blk_frozen BK132.out 0
 have hns11_0 := NB125_132.out
 have hns11_1 := NB126_132.out
 have hms11_0 := NB132_125.out
 have hms11_1 := NB132_126.out
 have hs12 : w10.cell? ⟨gb132, 1, none⟩ = some (.int .i64 0) := (blk_cell BK132.out 1).trans rfl
 have hfs12 := blk_frozen BK132.out 1
 have hns12_0 := NB125_132.out
 have hns12_1 := NB126_132.out
 have hms12_0 := NB132_125.out
 have hms12_1 := NB132_126.out
 have hs13 : w10.cell? ⟨gb132, 2, none⟩ = some (.int .i64 0) := (blk_cell BK132.out 2).trans rfl
 have hfs13 := blk_frozen BK132.out 2
 have hns13_0 := NB125_132.out
 have hns13_1 := NB126_132.out
 have hms13_0 := NB132_125.out
 have hms13_1 := NB132_126.out
 refine skip_ (w1 := ?_) (by rfl) rfl ?_ ?_
 rotate_left
 ·go_simp
  rfl
 refine hK.out _ _ ⟨(cg_ NB125_132 ((cg_ NB125_132 ((cg_ NB125_132 (hHeld.1)))))), (cg_ NB125_132 ((cg_ NB125_132 ((cg_ NB125_132 (hHeld.2.1)))))), (cg_ NB125_132 ((cg_ NB125_132 ((cg_ NB125_132 (hHeld.2.2))))))⟩ (fun hHeld => ?_)
 clear hK K
 refine px_ HT_ 16 7 131071 ?_
 refine done_ (done_of HT_.out (by kernel_rfl)) ?_
 have hnb14 := NB132_125.out
 have hnc14 := NB125_132.out
 have hnb15 := NB132_126.out
 have hnc15 := NB126_132.out
 obtain ⟨hcz16_0, hcz16_1, hcz16_2, hfz16_0, hfz16_1, hfz16_2⟩ := ch3_ BK132
 have hnb17 := NB126_125.out
 have hnc17 := NB125_126.out
 obtain ⟨hcz18_0, hcz18_1, hcz18_2, hfz18_0, hfz18_1, hfz18_2⟩ := ch3_ BK126
 try go_wp2
 refine bodyPost_ret (results_ct rfl _ _ gb126 39 #[.int .i64 t128, .int .i64 t129, .int .i64 t130] (0, 0) _ rfl (bp_ BK126).out Try.underlying39 rfl (by kernel_rfl)) rfl ?_
 exact ⟨es_, (bw_ HB).out⟩
/-! ### spec_l01Child: function 160 -/
def spec_l01Child.f (k : Nat) (a0 : Int) (a1_0 : Int) (a1_1 : Int) (a1_2 : Int) (a2 : Int) : Option (Int × Int × Int × Bool) := if a1_0 = 6 then (some (0, 0, 0, false)) else ((spec_l01Power.f k a0 a1_2).bind fun t135 => (if a1_0 ≥ 0 then ((spec_l01Power.f k a0 a1_0).bind fun t136 => ((spec_l01Of.f k a0 (wrap64 (a1_1 + (wrap64 ((wrap64 (a2 * t135)) * t136)))) t135 (wrap64 (a1_0 + 1))).bind fun bt137 => (some (bt137.1, bt137.2.1, bt137.2.2.1, bt137.2.2.2)))) else ((spec_l01Power.f k a0 (wrap64 (-a1_0))).bind fun t142 => (if t135 = 0 then (none) else (if t142 = 0 then (none) else ((spec_l01Of.f k a0 (wrap64 ((wrap64 (a1_1 * (wrap64 (Int.tdiv (mx t135 t142) t135)))) + (wrap64 (a2 * (wrap64 (Int.tdiv (mx t135 t142) t142)))))) (mx t135 t142) (wrap64 (a1_0 + 1))).bind fun bt143 => (some (bt143.1, bt143.2.1, bt143.2.2.1, bt143.2.2.2))))))))
theorem spec_l01Child.calls (k : Nat) (a0 : Int) (a1_0 : Int) (a1_1 : Int) (a1_2 : Int) (a2 : Int) (r1 : Int) (r2 : Int) (r3 : Int) (r4 : Bool) (w : World) (h : spec_l01Child.f k a0 a1_0 a1_1 a1_2 a2 = some (r1, r2, r3, r4)) :
  Calls Try.prog 160 #[.int .i64 a0, .agg #[.int .i64 a1_0, .int .i64 a1_1, .int .i64 a1_2], .int .i64 a2] w fun e w' => e = .returned (.tuple #[.agg #[.int .i64 r1, .int .i64 r2, .int .i64 r3], .bool r4]) ∧ Below w.heap.size w w' := by
 have hu39 := Try.underlying39
 have HB := Aside0.mk (Below.refl w.heap.size w)
 have H : (if a1_0 = 6 then (some (0, 0, 0, false)) else ((spec_l01Power.f k a0 a1_2).bind fun t135 => (if a1_0 ≥ 0 then ((spec_l01Power.f k a0 a1_0).bind fun t136 => ((spec_l01Of.f k a0 (wrap64 (a1_1 + (wrap64 ((wrap64 (a2 * t135)) * t136)))) t135 (wrap64 (a1_0 + 1))).bind fun bt137 => (some (bt137.1, bt137.2.1, bt137.2.2.1, bt137.2.2.2)))) else ((spec_l01Power.f k a0 (wrap64 (-a1_0))).bind fun t142 => (if t135 = 0 then (none) else (if t142 = 0 then (none) else ((spec_l01Of.f k a0 (wrap64 ((wrap64 (a1_1 * (wrap64 (Int.tdiv (mx t135 t142) t135)))) + (wrap64 (a2 * (wrap64 (Int.tdiv (mx t135 t142) t142)))))) (mx t135 t142) (wrap64 (a1_0 + 1))).bind fun bt143 => (some (bt143.1, bt143.2.1, bt143.2.2.1, bt143.2.2.2))))))))) = some (r1, r2, r3, r4) := h
 clear h
 by_cases c4 : a1_0 = 6
 ·rw [if_pos c4] at H
  have c4b0 : (a1_0 == 6) = true := beq_iff_eq.mpr c4
  have c4b1 : (a1_0 != 6) = false := bne_eq_false_iff_eq.mpr c4
  clear c4
  simp only [Option.some.injEq, Prod.mk.injEq] at H
  obtain ⟨rfl, rfl, rfl, rfl⟩ := H
  go_enter Try.func160, Try.ntmps160
  go_wp2_with (first | ((refine gd_ 4 ?_); refine bx_ 4 #[.int .i64 a1_0, .int .i64 a1_1, .int .i64 a1_2] 39 ?_; intro gb133 hg w5 BK133 hb; have GW133 := bs_ HB hg; have GE133 := bs_ HB hg; replace HB := bt_ HB hb; clear hb hg) | ((refine gd_ 6 ?_); refine bx_ 6 #[.int .i64 0, .int .i64 0, .int .i64 0] 39 ?_; intro gb134 hg w6 BK134 hb; have GW134 := bs_ HB hg; have GE134 := bs_ HB hg; have NB133_134 := bm_ BK133 hg; have NB134_133 := bn_ BK133 hg; replace BK133 := bb_ BK133 hb; replace HB := bt_ HB hb; clear hb hg; have hnb7 := NB133_134.out; have hnc7 := NB134_133.out; obtain ⟨hcz8_0, hcz8_1, hcz8_2, hfz8_0, hfz8_1, hfz8_2⟩ := ch3_ BK133; obtain ⟨hcz9_0, hcz9_1, hcz9_2, hfz9_0, hfz9_1, hfz9_2⟩ := ch3_ BK134))
  repeat (go_quiet (first | ((refine gd_ 4 ?_); refine bx_ 4 #[.int .i64 a1_0, .int .i64 a1_1, .int .i64 a1_2] 39 ?_; intro gb133 hg w5 BK133 hb; have GW133 := bs_ HB hg; have GE133 := bs_ HB hg; replace HB := bt_ HB hb; clear hb hg) | ((refine gd_ 6 ?_); refine bx_ 6 #[.int .i64 0, .int .i64 0, .int .i64 0] 39 ?_; intro gb134 hg w6 BK134 hb; have GW134 := bs_ HB hg; have GE134 := bs_ HB hg; have NB133_134 := bm_ BK133 hg; have NB134_133 := bn_ BK133 hg; replace BK133 := bb_ BK133 hb; replace HB := bt_ HB hb; clear hb hg; have hnb7 := NB133_134.out; have hnc7 := NB134_133.out; obtain ⟨hcz8_0, hcz8_1, hcz8_2, hfz8_0, hfz8_1, hfz8_2⟩ := ch3_ BK133; obtain ⟨hcz9_0, hcz9_1, hcz9_2, hfz9_0, hfz9_1, hfz9_2⟩ := ch3_ BK134)); try go_wp2_with (first | ((refine gd_ 4 ?_); refine bx_ 4 #[.int .i64 a1_0, .int .i64 a1_1, .int .i64 a1_2] 39 ?_; intro gb133 hg w5 BK133 hb; have GW133 := bs_ HB hg; have GE133 := bs_ HB hg; replace HB := bt_ HB hb; clear hb hg) | ((refine gd_ 6 ?_); refine bx_ 6 #[.int .i64 0, .int .i64 0, .int .i64 0] 39 ?_; intro gb134 hg w6 BK134 hb; have GW134 := bs_ HB hg; have GE134 := bs_ HB hg; have NB133_134 := bm_ BK133 hg; have NB134_133 := bn_ BK133 hg; replace BK133 := bb_ BK133 hb; replace HB := bt_ HB hb; clear hb hg; have hnb7 := NB133_134.out; have hnc7 := NB134_133.out; obtain ⟨hcz8_0, hcz8_1, hcz8_2, hfz8_0, hfz8_1, hfz8_2⟩ := ch3_ BK133; obtain ⟨hcz9_0, hcz9_1, hcz9_2, hfz9_0, hfz9_1, hfz9_2⟩ := ch3_ BK134)))
  refine bodyPost_ret (results_ct rfl _ _ gb134 39 #[.int .i64 0, .int .i64 0, .int .i64 0] (0, 0) _ rfl (bp_ BK134).out Try.underlying39 rfl (by kernel_rfl)) rfl ?_
  exact ⟨es_, (bw_ HB).out⟩
 ·rw [if_neg c4] at H
  have c4b0 : (a1_0 == 6) = false := beq_eq_false_iff_ne.mpr c4
  have c4b1 : (a1_0 != 6) = true := bne_iff_ne.mpr c4
  replace H := ob_ H
  obtain ⟨t135, A100, H⟩ := H
  have A10 := Aside0.mk A100
  clear A100
  by_cases c11 : a1_0 ≥ 0
  ·rw [if_pos c11] at H
   have c11b0 : decide (0 ≤ a1_0) = true := decide_eq_true c11
   clear c11
   replace H := ob_ H
   obtain ⟨t136, A120, H⟩ := H
   have A12 := Aside0.mk A120
   clear A120
   replace H := ob_ H
   obtain ⟨⟨t137, t138, t139, t140⟩, A130, H⟩ := H
   have A13 := Aside0.mk A130
   clear A130
   simp only [Option.some.injEq, Prod.mk.injEq] at H
   obtain ⟨rfl, rfl, rfl, rfl⟩ := H
   go_enter Try.func160, Try.ntmps160
   go_wp2_with (first | ((refine gd_ 4 ?_); refine bx_ 4 #[.int .i64 a1_0, .int .i64 a1_1, .int .i64 a1_2] 39 ?_; intro gb133 hg w14 BK133 hb; have GW133 := bs_ HB hg; have GE133 := bs_ HB hg; replace HB := bt_ HB hb; clear hb hg) | ((refine gd_ 6 ?_); refine bx_ 6 #[.int .i64 0, .int .i64 0, .int .i64 0] 39 ?_; intro gb134 hg w15 BK134 hb; have GW134 := bs_ HB hg; have GE134 := bs_ HB hg; have NB133_134 := bm_ BK133 hg; have NB134_133 := bn_ BK133 hg; replace BK133 := bb_ BK133 hb; replace HB := bt_ HB hb; clear hb hg; have hnb16 := NB133_134.out; have hnc16 := NB134_133.out; obtain ⟨hcz17_0, hcz17_1, hcz17_2, hfz17_0, hfz17_1, hfz17_2⟩ := ch3_ BK133) | (go_at_call 156; (with_reducible refine (spec_l01Power.calls k a0 a1_2 t135 _ A10.out).mono ?_); rintro e w' ⟨rfl, ⟨nd, rfl⟩⟩; (try exact dd_)) | (go_at_call 156; (with_reducible refine (spec_l01Power.calls k a0 a1_0 t136 _ A12.out).mono ?_); rintro e w' ⟨rfl, ⟨nd, rfl⟩⟩; (try exact dd_)) | (go_at_call 157; (with_reducible refine (spec_l01Of.calls k a0 (wrap64 (a1_1 + (wrap64 ((wrap64 (a2 * t135)) * t136)))) t135 (wrap64 (a1_0 + 1)) t137 t138 t139 t140 _ A13.out).mono ?_); rintro e w18 ⟨rfl, hb⟩; replace BK133 := bb_ BK133 hb; replace BK134 := bb_ BK134 hb; replace HB := bt_ HB hb; (try clear hb)) | ((refine gd_ 11 ?_); refine bx_ 11 #[.int .i64 0, .int .i64 0, .int .i64 0] 39 ?_; intro gb141 hg w19 BK141 hb; have GW141 := bs_ HB hg; have GE141 := bs_ HB hg; have NB133_141 := bm_ BK133 hg; have NB141_133 := bn_ BK133 hg; have NB134_141 := bm_ BK134 hg; have NB141_134 := bn_ BK134 hg; replace BK133 := bb_ BK133 hb; replace BK134 := bb_ BK134 hb; replace HB := bt_ HB hb; clear hb hg; have hnb20 := NB141_133.out; have hnc20 := NB133_141.out; have hnb21 := NB141_134.out; have hnc21 := NB134_141.out; obtain ⟨hcz22_0, hcz22_1, hcz22_2, hfz22_0, hfz22_1, hfz22_2⟩ := ch3_ BK141; obtain ⟨hcz23_0, hcz23_1, hcz23_2, hfz23_0, hfz23_1, hfz23_2⟩ := ch3_ BK134))
   repeat (go_quiet (first | ((refine gd_ 4 ?_); refine bx_ 4 #[.int .i64 a1_0, .int .i64 a1_1, .int .i64 a1_2] 39 ?_; intro gb133 hg w14 BK133 hb; have GW133 := bs_ HB hg; have GE133 := bs_ HB hg; replace HB := bt_ HB hb; clear hb hg) | ((refine gd_ 6 ?_); refine bx_ 6 #[.int .i64 0, .int .i64 0, .int .i64 0] 39 ?_; intro gb134 hg w15 BK134 hb; have GW134 := bs_ HB hg; have GE134 := bs_ HB hg; have NB133_134 := bm_ BK133 hg; have NB134_133 := bn_ BK133 hg; replace BK133 := bb_ BK133 hb; replace HB := bt_ HB hb; clear hb hg; have hnb16 := NB133_134.out; have hnc16 := NB134_133.out; obtain ⟨hcz17_0, hcz17_1, hcz17_2, hfz17_0, hfz17_1, hfz17_2⟩ := ch3_ BK133) | (go_at_call 156; (with_reducible refine (spec_l01Power.calls k a0 a1_2 t135 _ A10.out).mono ?_); rintro e w' ⟨rfl, ⟨nd, rfl⟩⟩; (try exact dd_)) | (go_at_call 156; (with_reducible refine (spec_l01Power.calls k a0 a1_0 t136 _ A12.out).mono ?_); rintro e w' ⟨rfl, ⟨nd, rfl⟩⟩; (try exact dd_)) | (go_at_call 157; (with_reducible refine (spec_l01Of.calls k a0 (wrap64 (a1_1 + (wrap64 ((wrap64 (a2 * t135)) * t136)))) t135 (wrap64 (a1_0 + 1)) t137 t138 t139 t140 _ A13.out).mono ?_); rintro e w18 ⟨rfl, hb⟩; replace BK133 := bb_ BK133 hb; replace BK134 := bb_ BK134 hb; replace HB := bt_ HB hb; (try clear hb)) | ((refine gd_ 11 ?_); refine bx_ 11 #[.int .i64 0, .int .i64 0, .int .i64 0] 39 ?_; intro gb141 hg w19 BK141 hb; have GW141 := bs_ HB hg; have GE141 := bs_ HB hg; have NB133_141 := bm_ BK133 hg; have NB141_133 := bn_ BK133 hg; have NB134_141 := bm_ BK134 hg; have NB141_134 := bn_ BK134 hg; replace BK133 := bb_ BK133 hb; replace BK134 := bb_ BK134 hb; replace HB := bt_ HB hb; clear hb hg; have hnb20 := NB141_133.out; have hnc20 := NB133_141.out; have hnb21 := NB141_134.out; have hnc21 := NB134_141.out; obtain ⟨hcz22_0, hcz22_1, hcz22_2, hfz22_0, hfz22_1, hfz22_2⟩ := ch3_ BK141; obtain ⟨hcz23_0, hcz23_1, hcz23_2, hfz23_0, hfz23_1, hfz23_2⟩ := ch3_ BK134)); try go_wp2_with (first | ((refine gd_ 4 ?_); refine bx_ 4 #[.int .i64 a1_0, .int .i64 a1_1, .int .i64 a1_2] 39 ?_; intro gb133 hg w14 BK133 hb; have GW133 := bs_ HB hg; have GE133 := bs_ HB hg; replace HB := bt_ HB hb; clear hb hg) | ((refine gd_ 6 ?_); refine bx_ 6 #[.int .i64 0, .int .i64 0, .int .i64 0] 39 ?_; intro gb134 hg w15 BK134 hb; have GW134 := bs_ HB hg; have GE134 := bs_ HB hg; have NB133_134 := bm_ BK133 hg; have NB134_133 := bn_ BK133 hg; replace BK133 := bb_ BK133 hb; replace HB := bt_ HB hb; clear hb hg; have hnb16 := NB133_134.out; have hnc16 := NB134_133.out; obtain ⟨hcz17_0, hcz17_1, hcz17_2, hfz17_0, hfz17_1, hfz17_2⟩ := ch3_ BK133) | (go_at_call 156; (with_reducible refine (spec_l01Power.calls k a0 a1_2 t135 _ A10.out).mono ?_); rintro e w' ⟨rfl, ⟨nd, rfl⟩⟩; (try exact dd_)) | (go_at_call 156; (with_reducible refine (spec_l01Power.calls k a0 a1_0 t136 _ A12.out).mono ?_); rintro e w' ⟨rfl, ⟨nd, rfl⟩⟩; (try exact dd_)) | (go_at_call 157; (with_reducible refine (spec_l01Of.calls k a0 (wrap64 (a1_1 + (wrap64 ((wrap64 (a2 * t135)) * t136)))) t135 (wrap64 (a1_0 + 1)) t137 t138 t139 t140 _ A13.out).mono ?_); rintro e w18 ⟨rfl, hb⟩; replace BK133 := bb_ BK133 hb; replace BK134 := bb_ BK134 hb; replace HB := bt_ HB hb; (try clear hb)) | ((refine gd_ 11 ?_); refine bx_ 11 #[.int .i64 0, .int .i64 0, .int .i64 0] 39 ?_; intro gb141 hg w19 BK141 hb; have GW141 := bs_ HB hg; have GE141 := bs_ HB hg; have NB133_141 := bm_ BK133 hg; have NB141_133 := bn_ BK133 hg; have NB134_141 := bm_ BK134 hg; have NB141_134 := bn_ BK134 hg; replace BK133 := bb_ BK133 hb; replace BK134 := bb_ BK134 hb; replace HB := bt_ HB hb; clear hb hg; have hnb20 := NB141_133.out; have hnc20 := NB133_141.out; have hnb21 := NB141_134.out; have hnc21 := NB134_141.out; obtain ⟨hcz22_0, hcz22_1, hcz22_2, hfz22_0, hfz22_1, hfz22_2⟩ := ch3_ BK141; obtain ⟨hcz23_0, hcz23_1, hcz23_2, hfz23_0, hfz23_1, hfz23_2⟩ := ch3_ BK134)))
   refine bodyPost_ret (results_ct rfl _ _ gb134 39 #[.int .i64 t137, .int .i64 t138, .int .i64 t139] (0, 0) _ rfl (bp_ BK134).out Try.underlying39 rfl (by kernel_rfl)) rfl ?_
   exact ⟨es_, (bw_ HB).out⟩
  ·rw [if_neg c11] at H
   have c11b0 : decide (0 ≤ a1_0) = false := decide_eq_false c11
   clear c11
   replace H := ob_ H
   obtain ⟨t142, A240, H⟩ := H
   have A24 := Aside0.mk A240
   clear A240
   obtain ⟨ji25, hji25⟩ : ∃ j_ : Int, (mx t135 t142) = j_ := ⟨_, rfl⟩
   replace H : (if t135 = 0 then (none) else (if t142 = 0 then (none) else ((spec_l01Of.f k a0 (wrap64 ((wrap64 (a1_1 * (wrap64 (Int.tdiv (ji25) t135)))) + (wrap64 (a2 * (wrap64 (Int.tdiv (ji25) t142)))))) (ji25) (wrap64 (a1_0 + 1))).bind fun bt143 => (some (bt143.1, bt143.2.1, bt143.2.2.1, bt143.2.2.2))))) = some (r1, r2, r3, r4) := by first | (rw [hji25] at H; exact H) | (simp only [hji25] at H ⊢; exact H)
   (try rw [hji25] at A10)
   (try rw [hji25] at A24)
   have hji25_ : (if t135 < t142 then t142 else t135) = ji25 := hji25
   by_cases c26 : t135 = 0
   ·rw [if_pos c26] at H
    exact absurd H (by simp)
   ·rw [if_neg c26] at H
    have c26b0 : (t135 == 0) = false := beq_eq_false_iff_ne.mpr c26
    have c26b1 : (t135 != 0) = true := bne_iff_ne.mpr c26
    by_cases c27 : t142 = 0
    ·rw [if_pos c27] at H
     exact absurd H (by simp)
    ·rw [if_neg c27] at H
     have c27b0 : (t142 == 0) = false := beq_eq_false_iff_ne.mpr c27
     have c27b1 : (t142 != 0) = true := bne_iff_ne.mpr c27
     replace H := ob_ H
     obtain ⟨⟨t143, t144, t145, t146⟩, A280, H⟩ := H
     have A28 := Aside0.mk A280
     clear A280
     simp only [Option.some.injEq, Prod.mk.injEq] at H
     obtain ⟨rfl, rfl, rfl, rfl⟩ := H
     go_enter Try.func160, Try.ntmps160
     go_wp2_with (first | ((refine gd_ 4 ?_); refine bx_ 4 #[.int .i64 a1_0, .int .i64 a1_1, .int .i64 a1_2] 39 ?_; intro gb133 hg w29 BK133 hb; have GW133 := bs_ HB hg; have GE133 := bs_ HB hg; replace HB := bt_ HB hb; clear hb hg) | ((refine gd_ 6 ?_); refine bx_ 6 #[.int .i64 0, .int .i64 0, .int .i64 0] 39 ?_; intro gb134 hg w30 BK134 hb; have GW134 := bs_ HB hg; have GE134 := bs_ HB hg; have NB133_134 := bm_ BK133 hg; have NB134_133 := bn_ BK133 hg; replace BK133 := bb_ BK133 hb; replace HB := bt_ HB hb; clear hb hg; have hnb31 := NB133_134.out; have hnc31 := NB134_133.out; obtain ⟨hcz32_0, hcz32_1, hcz32_2, hfz32_0, hfz32_1, hfz32_2⟩ := ch3_ BK133) | (go_at_call 156; (with_reducible refine (spec_l01Power.calls k a0 a1_2 t135 _ A10.out).mono ?_); rintro e w' ⟨rfl, ⟨nd, rfl⟩⟩; (try exact dd_)) | (go_at_call 156; (with_reducible refine (spec_l01Power.calls k a0 (wrap64 (-a1_0)) t142 _ A24.out).mono ?_); rintro e w' ⟨rfl, ⟨nd, rfl⟩⟩; (try exact dd_)) | (go_at_call 157; (with_reducible refine (spec_l01Of.calls k a0 (wrap64 ((wrap64 (a1_1 * (wrap64 (Int.tdiv (ji25) t135)))) + (wrap64 (a2 * (wrap64 (Int.tdiv (ji25) t142)))))) ji25 (wrap64 (a1_0 + 1)) t143 t144 t145 t146 _ A28.out).mono ?_); rintro e w33 ⟨rfl, hb⟩; replace BK133 := bb_ BK133 hb; replace BK134 := bb_ BK134 hb; replace HB := bt_ HB hb; (try clear hb)) | ((refine gd_ 11 ?_); refine bx_ 11 #[.int .i64 0, .int .i64 0, .int .i64 0] 39 ?_; intro gb147 hg w34 BK147 hb; have GW147 := bs_ HB hg; have GE147 := bs_ HB hg; have NB133_147 := bm_ BK133 hg; have NB147_133 := bn_ BK133 hg; have NB134_147 := bm_ BK134 hg; have NB147_134 := bn_ BK134 hg; replace BK133 := bb_ BK133 hb; replace BK134 := bb_ BK134 hb; replace HB := bt_ HB hb; clear hb hg; have hnb35 := NB147_133.out; have hnc35 := NB133_147.out; have hnb36 := NB147_134.out; have hnc36 := NB134_147.out; obtain ⟨hcz37_0, hcz37_1, hcz37_2, hfz37_0, hfz37_1, hfz37_2⟩ := ch3_ BK147; obtain ⟨hcz38_0, hcz38_1, hcz38_2, hfz38_0, hfz38_1, hfz38_2⟩ := ch3_ BK134))
     repeat (go_quiet (first | ((refine gd_ 4 ?_); refine bx_ 4 #[.int .i64 a1_0, .int .i64 a1_1, .int .i64 a1_2] 39 ?_; intro gb133 hg w29 BK133 hb; have GW133 := bs_ HB hg; have GE133 := bs_ HB hg; replace HB := bt_ HB hb; clear hb hg) | ((refine gd_ 6 ?_); refine bx_ 6 #[.int .i64 0, .int .i64 0, .int .i64 0] 39 ?_; intro gb134 hg w30 BK134 hb; have GW134 := bs_ HB hg; have GE134 := bs_ HB hg; have NB133_134 := bm_ BK133 hg; have NB134_133 := bn_ BK133 hg; replace BK133 := bb_ BK133 hb; replace HB := bt_ HB hb; clear hb hg; have hnb31 := NB133_134.out; have hnc31 := NB134_133.out; obtain ⟨hcz32_0, hcz32_1, hcz32_2, hfz32_0, hfz32_1, hfz32_2⟩ := ch3_ BK133) | (go_at_call 156; (with_reducible refine (spec_l01Power.calls k a0 a1_2 t135 _ A10.out).mono ?_); rintro e w' ⟨rfl, ⟨nd, rfl⟩⟩; (try exact dd_)) | (go_at_call 156; (with_reducible refine (spec_l01Power.calls k a0 (wrap64 (-a1_0)) t142 _ A24.out).mono ?_); rintro e w' ⟨rfl, ⟨nd, rfl⟩⟩; (try exact dd_)) | (go_at_call 157; (with_reducible refine (spec_l01Of.calls k a0 (wrap64 ((wrap64 (a1_1 * (wrap64 (Int.tdiv (ji25) t135)))) + (wrap64 (a2 * (wrap64 (Int.tdiv (ji25) t142)))))) ji25 (wrap64 (a1_0 + 1)) t143 t144 t145 t146 _ A28.out).mono ?_); rintro e w33 ⟨rfl, hb⟩; replace BK133 := bb_ BK133 hb; replace BK134 := bb_ BK134 hb; replace HB := bt_ HB hb; (try clear hb)) | ((refine gd_ 11 ?_); refine bx_ 11 #[.int .i64 0, .int .i64 0, .int .i64 0] 39 ?_; intro gb147 hg w34 BK147 hb; have GW147 := bs_ HB hg; have GE147 := bs_ HB hg; have NB133_147 := bm_ BK133 hg; have NB147_133 := bn_ BK133 hg; have NB134_147 := bm_ BK134 hg; have NB147_134 := bn_ BK134 hg; replace BK133 := bb_ BK133 hb; replace BK134 := bb_ BK134 hb; replace HB := bt_ HB hb; clear hb hg; have hnb35 := NB147_133.out; have hnc35 := NB133_147.out; have hnb36 := NB147_134.out; have hnc36 := NB134_147.out; obtain ⟨hcz37_0, hcz37_1, hcz37_2, hfz37_0, hfz37_1, hfz37_2⟩ := ch3_ BK147; obtain ⟨hcz38_0, hcz38_1, hcz38_2, hfz38_0, hfz38_1, hfz38_2⟩ := ch3_ BK134)); try go_wp2_with (first | ((refine gd_ 4 ?_); refine bx_ 4 #[.int .i64 a1_0, .int .i64 a1_1, .int .i64 a1_2] 39 ?_; intro gb133 hg w29 BK133 hb; have GW133 := bs_ HB hg; have GE133 := bs_ HB hg; replace HB := bt_ HB hb; clear hb hg) | ((refine gd_ 6 ?_); refine bx_ 6 #[.int .i64 0, .int .i64 0, .int .i64 0] 39 ?_; intro gb134 hg w30 BK134 hb; have GW134 := bs_ HB hg; have GE134 := bs_ HB hg; have NB133_134 := bm_ BK133 hg; have NB134_133 := bn_ BK133 hg; replace BK133 := bb_ BK133 hb; replace HB := bt_ HB hb; clear hb hg; have hnb31 := NB133_134.out; have hnc31 := NB134_133.out; obtain ⟨hcz32_0, hcz32_1, hcz32_2, hfz32_0, hfz32_1, hfz32_2⟩ := ch3_ BK133) | (go_at_call 156; (with_reducible refine (spec_l01Power.calls k a0 a1_2 t135 _ A10.out).mono ?_); rintro e w' ⟨rfl, ⟨nd, rfl⟩⟩; (try exact dd_)) | (go_at_call 156; (with_reducible refine (spec_l01Power.calls k a0 (wrap64 (-a1_0)) t142 _ A24.out).mono ?_); rintro e w' ⟨rfl, ⟨nd, rfl⟩⟩; (try exact dd_)) | (go_at_call 157; (with_reducible refine (spec_l01Of.calls k a0 (wrap64 ((wrap64 (a1_1 * (wrap64 (Int.tdiv (ji25) t135)))) + (wrap64 (a2 * (wrap64 (Int.tdiv (ji25) t142)))))) ji25 (wrap64 (a1_0 + 1)) t143 t144 t145 t146 _ A28.out).mono ?_); rintro e w33 ⟨rfl, hb⟩; replace BK133 := bb_ BK133 hb; replace BK134 := bb_ BK134 hb; replace HB := bt_ HB hb; (try clear hb)) | ((refine gd_ 11 ?_); refine bx_ 11 #[.int .i64 0, .int .i64 0, .int .i64 0] 39 ?_; intro gb147 hg w34 BK147 hb; have GW147 := bs_ HB hg; have GE147 := bs_ HB hg; have NB133_147 := bm_ BK133 hg; have NB147_133 := bn_ BK133 hg; have NB134_147 := bm_ BK134 hg; have NB147_134 := bn_ BK134 hg; replace BK133 := bb_ BK133 hb; replace BK134 := bb_ BK134 hb; replace HB := bt_ HB hb; clear hb hg; have hnb35 := NB147_133.out; have hnc35 := NB133_147.out; have hnb36 := NB147_134.out; have hnc36 := NB134_147.out; obtain ⟨hcz37_0, hcz37_1, hcz37_2, hfz37_0, hfz37_1, hfz37_2⟩ := ch3_ BK147; obtain ⟨hcz38_0, hcz38_1, hcz38_2, hfz38_0, hfz38_1, hfz38_2⟩ := ch3_ BK134)))
     refine bodyPost_ret (results_ct rfl _ _ gb134 39 #[.int .i64 t143, .int .i64 t144, .int .i64 t145] (0, 0) _ rfl (bp_ BK134).out Try.underlying39 rfl (by kernel_rfl)) rfl ?_
     exact ⟨by first | rfl | (simp [errW_none, errW_some] <;> rfl) | (simp only [← hji25]; first | rfl | (simp [errW_none, errW_some] <;> rfl)) | (simp [*, errW_none, errW_some] <;> rfl), (bw_ HB).out⟩
/-! ### spec_l10Step: function 129 -/
def spec_l10Step.f (k : Nat) (a0 : Int) (a1_0 : Int) (a1_1 : Int) (a1_2 : Int) (a2 : Int) : Option (Int × Int × Int × Bool) := if a2 = 117 then ((spec_l01Parent.f k a0 a1_0 a1_1 a1_2).bind fun bt150 => (some (bt150.1, bt150.2.1, bt150.2.2.1, bt150.2.2.2))) else ((spec_l01Child.f k a0 a1_0 a1_1 a1_2 (wrap64 ((wrap64 (a2)) - 48))).bind fun bt155 => (some (bt155.1, bt155.2.1, bt155.2.2.1, bt155.2.2.2)))
theorem spec_l10Step.calls (k : Nat) (a0 : Int) (a1_0 : Int) (a1_1 : Int) (a1_2 : Int) (a2 : Int) (r1 : Int) (r2 : Int) (r3 : Int) (r4 : Bool) (w : World) (h : spec_l10Step.f k a0 a1_0 a1_1 a1_2 a2 = some (r1, r2, r3, r4)) :
  Calls Try.prog 129 #[.int .i64 a0, .agg #[.int .i64 a1_0, .int .i64 a1_1, .int .i64 a1_2], .int .u8 a2] w fun e w' => e = .returned (.tuple #[.agg #[.int .i64 r1, .int .i64 r2, .int .i64 r3], .bool r4]) ∧ Below w.heap.size w w' := by
 have hu39 := Try.underlying39
 have HB := Aside0.mk (Below.refl w.heap.size w)
 have H : (if a2 = 117 then ((spec_l01Parent.f k a0 a1_0 a1_1 a1_2).bind fun bt150 => (some (bt150.1, bt150.2.1, bt150.2.2.1, bt150.2.2.2))) else ((spec_l01Child.f k a0 a1_0 a1_1 a1_2 (wrap64 ((wrap64 (a2)) - 48))).bind fun bt155 => (some (bt155.1, bt155.2.1, bt155.2.2.1, bt155.2.2.2)))) = some (r1, r2, r3, r4) := h
 clear h
 by_cases c4 : a2 = 117
 ·rw [if_pos c4] at H
  have c4b0 : (a2 == 117) = true := beq_iff_eq.mpr c4
  have c4b1 : (a2 != 117) = false := bne_eq_false_iff_eq.mpr c4
  clear c4
  replace H := ob_ H
  obtain ⟨⟨t150, t151, t152, t153⟩, A50, H⟩ := H
  have A5 := Aside0.mk A50
  clear A50
  simp only [Option.some.injEq, Prod.mk.injEq] at H
  obtain ⟨rfl, rfl, rfl, rfl⟩ := H
  go_enter Try.func129, Try.ntmps129
  go_wp2_with (first | ((refine gd_ 4 ?_); refine bx_ 4 #[.int .i64 a1_0, .int .i64 a1_1, .int .i64 a1_2] 39 ?_; intro gb148 hg w6 BK148 hb; have GW148 := bs_ HB hg; have GE148 := bs_ HB hg; replace HB := bt_ HB hb; clear hb hg) | ((refine gd_ 6 ?_); refine bx_ 6 #[.int .i64 0, .int .i64 0, .int .i64 0] 39 ?_; intro gb149 hg w7 BK149 hb; have GW149 := bs_ HB hg; have GE149 := bs_ HB hg; have NB148_149 := bm_ BK148 hg; have NB149_148 := bn_ BK148 hg; replace BK148 := bb_ BK148 hb; replace HB := bt_ HB hb; clear hb hg; have hnb8 := NB148_149.out; have hnc8 := NB149_148.out; obtain ⟨hcz9_0, hcz9_1, hcz9_2, hfz9_0, hfz9_1, hfz9_2⟩ := ch3_ BK148) | ((refine gc_ 159 ?_); refine ge_ 17 Try.func159 #[.int .i64 a0, .agg #[.int .i64 a1_0, .int .i64 a1_1, .int .i64 a1_2]] ?_; (with_reducible refine (spec_l01Parent.calls k a0 a1_0 a1_1 a1_2 t150 t151 t152 t153 _ A5.out).mono ?_); rintro e w10 ⟨rfl, hb⟩; refine ⟨_, rfl, ?_⟩; replace BK148 := bb_ BK148 hb; replace BK149 := bb_ BK149 hb; replace HB := bt_ HB hb; (try clear hb)) | ((refine gd_ 8 ?_); refine bx_ 8 #[.int .i64 0, .int .i64 0, .int .i64 0] 39 ?_; intro gb154 hg w11 BK154 hb; have GW154 := bs_ HB hg; have GE154 := bs_ HB hg; have NB148_154 := bm_ BK148 hg; have NB154_148 := bn_ BK148 hg; have NB149_154 := bm_ BK149 hg; have NB154_149 := bn_ BK149 hg; replace BK148 := bb_ BK148 hb; replace BK149 := bb_ BK149 hb; replace HB := bt_ HB hb; clear hb hg; have hnb12 := NB154_148.out; have hnc12 := NB148_154.out; have hnb13 := NB154_149.out; have hnc13 := NB149_154.out; obtain ⟨hcz14_0, hcz14_1, hcz14_2, hfz14_0, hfz14_1, hfz14_2⟩ := ch3_ BK154; obtain ⟨hcz15_0, hcz15_1, hcz15_2, hfz15_0, hfz15_1, hfz15_2⟩ := ch3_ BK149))
  refine bodyPost_ret (results_ct rfl _ _ gb149 39 #[.int .i64 t150, .int .i64 t151, .int .i64 t152] (0, 0) _ rfl (bp_ BK149).out Try.underlying39 rfl (by kernel_rfl)) rfl ?_
  exact ⟨es_, (bw_ HB).out⟩
 ·rw [if_neg c4] at H
  have c4b0 : (a2 == 117) = false := beq_eq_false_iff_ne.mpr c4
  have c4b1 : (a2 != 117) = true := bne_iff_ne.mpr c4
  replace H := ob_ H
  obtain ⟨⟨t155, t156, t157, t158⟩, A160, H⟩ := H
  have A16 := Aside0.mk A160
  clear A160
  simp only [Option.some.injEq, Prod.mk.injEq] at H
  obtain ⟨rfl, rfl, rfl, rfl⟩ := H
  go_enter Try.func129, Try.ntmps129
  go_wp2_with (first | ((refine gd_ 4 ?_); refine bx_ 4 #[.int .i64 a1_0, .int .i64 a1_1, .int .i64 a1_2] 39 ?_; intro gb148 hg w17 BK148 hb; have GW148 := bs_ HB hg; have GE148 := bs_ HB hg; replace HB := bt_ HB hb; clear hb hg) | ((refine gd_ 6 ?_); refine bx_ 6 #[.int .i64 0, .int .i64 0, .int .i64 0] 39 ?_; intro gb149 hg w18 BK149 hb; have GW149 := bs_ HB hg; have GE149 := bs_ HB hg; have NB148_149 := bm_ BK148 hg; have NB149_148 := bn_ BK148 hg; replace BK148 := bb_ BK148 hb; replace HB := bt_ HB hb; clear hb hg; have hnb19 := NB148_149.out; have hnc19 := NB149_148.out; obtain ⟨hcz20_0, hcz20_1, hcz20_2, hfz20_0, hfz20_1, hfz20_2⟩ := ch3_ BK148) | ((refine gc_ 160 ?_); refine ge_ 28 Try.func160 #[.int .i64 a0, .agg #[.int .i64 a1_0, .int .i64 a1_1, .int .i64 a1_2], .int .i64 (wrap64 ((wrap64 (a2)) - 48))] ?_; (with_reducible refine (spec_l01Child.calls k a0 a1_0 a1_1 a1_2 (wrap64 ((wrap64 (a2)) - 48)) t155 t156 t157 t158 _ A16.out).mono ?_); rintro e w21 ⟨rfl, hb⟩; refine ⟨_, rfl, ?_⟩; replace BK148 := bb_ BK148 hb; replace BK149 := bb_ BK149 hb; replace HB := bt_ HB hb; (try clear hb)) | ((refine gd_ 10 ?_); refine bx_ 10 #[.int .i64 0, .int .i64 0, .int .i64 0] 39 ?_; intro gb159 hg w22 BK159 hb; have GW159 := bs_ HB hg; have GE159 := bs_ HB hg; have NB148_159 := bm_ BK148 hg; have NB159_148 := bn_ BK148 hg; have NB149_159 := bm_ BK149 hg; have NB159_149 := bn_ BK149 hg; replace BK148 := bb_ BK148 hb; replace BK149 := bb_ BK149 hb; replace HB := bt_ HB hb; clear hb hg; have hnb23 := NB159_148.out; have hnc23 := NB148_159.out; have hnb24 := NB159_149.out; have hnc24 := NB149_159.out; obtain ⟨hcz25_0, hcz25_1, hcz25_2, hfz25_0, hfz25_1, hfz25_2⟩ := ch3_ BK159; obtain ⟨hcz26_0, hcz26_1, hcz26_2, hfz26_0, hfz26_1, hfz26_2⟩ := ch3_ BK149))
  refine bodyPost_ret (results_ct rfl _ _ gb149 39 #[.int .i64 t155, .int .i64 t156, .int .i64 t157] (0, 0) _ rfl (bp_ BK149).out Try.underlying39 rfl (by kernel_rfl)) rfl ?_
  exact ⟨es_, (bw_ HB).out⟩
end Go.Proofs.Ytbilincmcnnonaa.QR
