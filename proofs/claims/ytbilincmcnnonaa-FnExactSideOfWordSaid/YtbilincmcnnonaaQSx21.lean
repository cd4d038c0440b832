import Derived.Test.YtbilincmcnnonaaQSx8
import Derived.Test.YtbilincmcnnonaaQSx13
import Derived.Test.YtbilincmcnnonaaQSx18
namespace Go.Proofs.Ytbilincmcnnonaa.QS
set_option maxHeartbeats 8000000
set_option maxRecDepth 100000
open Go.RowKit Go.Proofs.YtbilincmcnnonaaW.PrintWords Go.Proofs.YtbilincmcnnonaaW.PrintLast Go.Proofs.YtbilincmcnnonaaW.PrintMore
attribute [local go_sem] isSome_setCell max2_int min2_int max_two min_two max_three min_three max_four min_four
set_option linter.unusedVariables false
set_option linter.unusedSimpArgs false

attribute [local go_sem high] eqA39
/-! ### spec_l01Holds: function 174 -/
def spec_l01Holds.f (k : Nat) (a0 : Int) (a1_0 : Int) (a1_1 : Int) (a1_2 : Int) (a2_0 : Int) (a2_1 : Int) (a2_2 : Int) : Option (Bool) := if a1_0 > a2_0 then (some false) else ((spec_l01Power.f k a0 a2_2).bind fun t157 => ((spec_l01Of.f k a0 a2_1 t157 a1_0).bind fun bt158 => (if bt158.2.2.2 = true then (some (bt158.1 == a1_0 && (bt158.2.1 == a1_1 && (bt158.2.2.1 == a1_2)))) else (some false))))
def spec_l01Holds.T3 : Bool × List (List Nat × List Nat) := (true, [([], []), ([], []), ([1], [1]), ([], []), ([], []), ([4], [4]), ([3, 5], [3, 5]), ([], []), ([7], [7]), ([0, 2, 6, 8, 6], [0, 2, 6, 8]), ([9], [9]), ([10], [10]), ([10], [10]), ([], []), ([13, 11, 9, 0, 1, 2, 3, 4, 5, 6, 7, 8, 9, 10, 11, 13], [11, 13]), ([12, 14, 0, 1, 2, 3, 4, 5, 6, 7, 8, 9, 10, 11, 12, 13, 14], [12])])
def spec_l01Holds.B3 : List Nat := [0, 0, 2, 0, 0, 16, 56, 0, 128, 511, 1023, 2047, 2047, 0, 12287, 32767]
theorem spec_l01Holds.tab3 : rtab .any (opsOf Try.f174 3) = spec_l01Holds.T3 := by kernel_rfl
theorem spec_l01Holds.bits3 : waitsOk spec_l01Holds.T3.2 spec_l01Holds.B3 = true := by kernel_rfl
theorem spec_l01Holds.calls (k : Nat) (a0 : Int) (a1_0 : Int) (a1_1 : Int) (a1_2 : Int) (a2_0 : Int) (a2_1 : Int) (a2_2 : Int) (r : Bool) (w : World) (h : spec_l01Holds.f k a0 a1_0 a1_1 a1_2 a2_0 a2_1 a2_2 = some r) :
  Calls Try.prog 174 #[.int .i64 a0, .agg #[.int .i64 a1_0, .int .i64 a1_1, .int .i64 a1_2], .agg #[.int .i64 a2_0, .int .i64 a2_1, .int .i64 a2_2]] w fun e w' => e = .returned (.bool r) ∧ Below w.heap.size w w' := by
 have hu39 := Try.underlying39
 have HB := Aside0.mk (Below.refl w.heap.size w)
 have H : (if a1_0 > a2_0 then (some false) else ((spec_l01Power.f k a0 a2_2).bind fun t157 => ((spec_l01Of.f k a0 a2_1 t157 a1_0).bind fun bt158 => (if bt158.2.2.2 = true then (some (bt158.1 == a1_0 && (bt158.2.1 == a1_1 && (bt158.2.2.1 == a1_2)))) else (some false))))) = some r := h
 clear h
 by_cases c4 : a1_0 > a2_0
 ·rw [if_pos c4] at H
  have c4b0 : decide (a2_0 < a1_0) = true := decide_eq_true c4
  clear c4
  obtain rfl := si_ H
  go_enter Try.func174, Try.ntmps174
  go_wp2_with (first | (refine bx_ 4 #[.int .i64 a1_0, .int .i64 a1_1, .int .i64 a1_2] 39 ?_; intro gb155 hg w5 hbox hb; have BK155 := Aside0.mk (hbox); have GW155 := bs_ HB hg; have GE155 := bs_ HB hg; replace HB := bt_ HB hb; clear hb hbox hg) | (refine bx_ 5 #[.int .i64 a2_0, .int .i64 a2_1, .int .i64 a2_2] 39 ?_; intro gb156 hg w6 hbox hb; have BK156 := Aside0.mk (hbox); have GW156 := bs_ HB hg; have GE156 := bs_ HB hg; have NB155_156 := bm_ BK155 hg; have NB156_155 := bn_ BK155 hg; replace BK155 := bb_ BK155 hb; replace HB := bt_ HB hb; clear hb hbox hg; have hnb7 := NB155_156.out; have hnc7 := NB156_155.out; obtain ⟨hcz8_0, hcz8_1, hcz8_2, hfz8_0, hfz8_1, hfz8_2⟩ := ch3_ BK155; obtain ⟨hcz9_0, hcz9_1, hcz9_2, hfz9_0, hfz9_1, hfz9_2⟩ := ch3_ BK156))
  go_ret
  exact ⟨es_, (bw_ HB).out⟩
 ·rw [if_neg c4] at H
  have c4b0 : decide (a2_0 < a1_0) = false := decide_eq_false c4
  clear c4
  replace H := ob_ H
  obtain ⟨t157, A100, H⟩ := H
  have A10 := Aside0.mk A100
  clear A100
  replace H := ob_ H
  obtain ⟨⟨t158, t159, t160, t161⟩, A110, H⟩ := H
  have A11 := Aside0.mk A110
  clear A110
  by_cases c12 : t161 = true
  ·subst c12
   have H1 : (some (t158 == a1_0 && (t159 == a1_1 && (t160 == a1_2)))) = some r := by rw [if_pos rfl] at H; exact H
   clear H
   have H := H1
   clear H1
   obtain rfl := si_ H
   go_enter Try.func174, Try.ntmps174
   try go_wp2_with (first | (refine bx_ 4 #[.int .i64 a1_0, .int .i64 a1_1, .int .i64 a1_2] 39 ?_; intro gb155 hg w13 hbox hb; have BK155 := Aside0.mk (hbox); have GW155 := bs_ HB hg; have GE155 := bs_ HB hg; replace HB := bt_ HB hb; clear hb hbox hg) | (refine bx_ 5 #[.int .i64 a2_0, .int .i64 a2_1, .int .i64 a2_2] 39 ?_; intro gb156 hg w14 hbox hb; have BK156 := Aside0.mk (hbox); have GW156 := bs_ HB hg; have GE156 := bs_ HB hg; have NB155_156 := bm_ BK155 hg; have NB156_155 := bn_ BK155 hg; replace BK155 := bb_ BK155 hb; replace HB := bt_ HB hb; clear hb hbox hg; have hnb15 := NB155_156.out; have hnc15 := NB156_155.out; obtain ⟨hcz16_0, hcz16_1, hcz16_2, hfz16_0, hfz16_1, hfz16_2⟩ := ch3_ BK155; obtain ⟨hcz17_0, hcz17_1, hcz17_2, hfz17_0, hfz17_1, hfz17_2⟩ := ch3_ BK156))
   replace BK155 := Aside0.mk (blk_drew BK155.out)
   replace BK156 := Aside0.mk (blk_drew BK156.out)
   replace HB := Aside0.mk (below_drew1 HB.out)
   refine start_ (n := 16) (S := fun w' => w'.cell? ⟨gb156, 0, none⟩ = some (.int .i64 a2_0) ∧ w'.cell? ⟨gb156, 1, none⟩ = some (.int .i64 a2_1) ∧ w'.cell? ⟨gb156, 2, none⟩ = some (.int .i64 a2_2) ∧ w'.cell? ⟨gb155, 0, none⟩ = some (.int .i64 a1_0) ∧ w'.cell? ⟨gb155, 1, none⟩ = some (.int .i64 a1_1) ∧ w'.cell? ⟨gb155, 2, none⟩ = some (.int .i64 a1_2)) (ds := []) (bv_ 16 0) (by kernel_rfl) rfl rfl ⟨cz_ BK156 0, cz_ BK156 1, cz_ BK156 2, cz_ BK155 0, cz_ BK155 1, cz_ BK155 2⟩ (fun hHeld => ?_); refine with_tabW spec_l01Holds.tab3 spec_l01Holds.bits3 (fun HT_ HW_ => ?_)
   generalize w14.drew = w18 at BK155 BK156 HB hHeld ⊢
   refine pu_ HT_ 0 (some 15) (bv_ 16 1) ?_
   refine pu_ HT_ 1 (some 16) (bv_ 16 3) ?_
   refine pu_ HT_ 3 (some 18) (bv_ 16 11) ?_
   refine pu_ HT_ 4 (some 19) (bv_ 16 27) ?_
   refine pu_ HT_ 7 (some 22) (bv_ 16 155) ?_
   refine ta_ HT_ HW_ 2 (some 17) (bv_ 16 159) hHeld ?_ (hy := by rintro w' ⟨s0, s1, s2, s3, s4, s5⟩; go_simp; with_reducible rfl)
   refine ta_ HT_ HW_ 5 (some 20) (bv_ 16 191) hHeld ?_ (hy := by rintro w' ⟨s0, s1, s2, s3, s4, s5⟩; go_simp; with_reducible rfl)
   refine ta_ HT_ HW_ 8 (some 23) (bv_ 16 447) hHeld ?_ (hy := by rintro w' ⟨s0, s1, s2, s3, s4, s5⟩; go_simp; with_reducible rfl)
   refine join_ (σ := Nat) 2 (bv_ 16 16383) (fun s_ => [(21, .int .i64 t157), (24, .tuple #[.agg #[.int .i64 t158, .int .i64 t159, .int .i64 t160], .bool true]), (7, .pointer (some ⟨s_, 0, none⟩)), (14, .tuple #[.agg #[.int .i64 t158, .int .i64 t159, .int .i64 t160], .bool true]), (25, .agg #[.int .i64 t158, .int .i64 t159, .int .i64 t160]), (26, .bool true)]) (fun s_ w' => (w'.cell? ⟨gb156, 0, none⟩ = some (.int .i64 a2_0) ∧ w'.cell? ⟨gb156, 1, none⟩ = some (.int .i64 a2_1) ∧ w'.cell? ⟨gb156, 2, none⟩ = some (.int .i64 a2_2) ∧ w'.cell? ⟨gb155, 0, none⟩ = some (.int .i64 a1_0) ∧ w'.cell? ⟨gb155, 1, none⟩ = some (.int .i64 a1_1) ∧ w'.cell? ⟨gb155, 2, none⟩ = some (.int .i64 a1_2)) ∧ (w'.heap[gb155]? = some (.cells #[.int .i64 a1_0, .int .i64 a1_1, .int .i64 a1_2] 39 (0, 0))) ∧ (w'.heap[gb156]? = some (.cells #[.int .i64 a2_0, .int .i64 a2_1, .int .i64 a2_2] 39 (0, 0))) ∧ (w'.heap[s_]? = some (.cells #[.int .i64 0, .int .i64 0, .int .i64 0] 39 (0, 0))) ∧ (w.heap.size ≤ s_) ∧ (w.heap.size ≤ s_) ∧ (gb155 ≠ s_) ∧ (s_ ≠ gb155) ∧ (gb156 ≠ s_) ∧ (s_ ≠ gb156) ∧ (Below w.heap.size w w')) ?_ ?_
   rotate_left
   ·intro hCont
    refine tw_ HT_ 6 13 (some 21) (some 7) (bv_ 16 511) (bv_ 16 8639) (fun K hK => ?_) (fun K hK => ?_)
    ·skip
     refine gs_ Try.func156 #[.int .i64 a0, .int .i64 a2_2] ?_
     with_reducible refine (spec_l01Power.calls k a0 a2_2 t157 _ A10.out).mono ?_
     rintro e w' ⟨rfl, ⟨nd, rfl⟩⟩
     refine ⟨_, rfl, ?_⟩
     refine hK.out _ _ ⟨cz_ BK156 0, cz_ BK156 1, cz_ BK156 2, cz_ BK155 0, cz_ BK155 1, cz_ BK155 2⟩ (fun hHeld => ?_)
     clear hK K
     refine nm_ (some 21) ?_
     refine tw_ HT_ 9 13 (some 24) (some 7) (bv_ 16 1023) (bv_ 16 8703) (fun K hK => ?_) (fun K hK => ?_)
     ·skip
      refine gs_ Try.func157 #[.int .i64 a0, .int .i64 a2_1, .int .i64 t157, .int .i64 a1_0] ?_
      with_reducible refine (spec_l01Of.calls k a0 a2_1 t157 a1_0 t158 t159 t160 true _ A11.out).mono ?_
      rintro e w19 ⟨rfl, hb⟩
      refine ⟨_, rfl, ?_⟩
      replace BK155 := bb_ BK155 hb
      replace BK156 := bb_ BK156 hb
      replace HB := bt_ HB hb
      (try clear hb)
      (try clear hb2)
      (try clear hk)
      (try clear hi)
      refine hK.out _ _ ⟨cz_ BK156 0, cz_ BK156 1, cz_ BK156 2, cz_ BK155 0, cz_ BK155 1, cz_ BK155 2⟩ (fun hHeld => ?_)
      clear hK K
      refine nm_ (some 24) ?_
      refine pu_ HT_ 10 (some 14) (bv_ 16 2047) ?_
      refine pu_ HT_ 11 (some 25) (bv_ 16 4095) ?_
      refine pu_ HT_ 12 (some 26) (bv_ 16 8191) ?_
      refine on_ HT_ 13 (some 7) (bv_ 16 16383) (fun K hK => ?_)
      refine bz_ 7 #[.int .i64 0, .int .i64 0, .int .i64 0] 39 ?_
      intro gb162 hg w20 hbox hb
      have BK162 := Aside0.mk (hbox)
      have GW162 := bs_ HB hg
      have GE162 := bs_ HB hg
      have NB155_162 := bm_ BK155 hg
      have NB162_155 := bn_ BK155 hg
      have NB156_162 := bm_ BK156 hg
      have NB162_156 := bn_ BK156 hg
      replace BK155 := bb_ BK155 hb
      replace BK156 := bb_ BK156 hb
      replace HB := bt_ HB hb
      clear hb hbox hg
      refine hK.out _ _ ⟨cz_ BK156 0, cz_ BK156 1, cz_ BK156 2, cz_ BK155 0, cz_ BK155 1, cz_ BK155 2⟩ (fun hHeld => ?_)
      clear hK K
      refine nm_ (some 7) ?_
      exact norm_ (by simp only [putAll, Act.put, lstS, lstZ, lstC]) (hCont (gb162) _ ⟨hHeld, (bl_ BK155).out, (bl_ BK156).out, (bl_ BK162).out, GW162.out, GE162.out, NB155_162.out, NB162_155.out, NB156_162.out, NB162_156.out, (bw_ HB).out⟩)
     ·skip
      refine bz_ 7 #[.int .i64 0, .int .i64 0, .int .i64 0] 39 ?_
      intro gb162 hg w19 hbox hb
      have BK162 := Aside0.mk (hbox)
      have GW162 := bs_ HB hg
      have GE162 := bs_ HB hg
      have NB155_162 := bm_ BK155 hg
      have NB162_155 := bn_ BK155 hg
      have NB156_162 := bm_ BK156 hg
      have NB162_156 := bn_ BK156 hg
      replace BK155 := bb_ BK155 hb
      replace BK156 := bb_ BK156 hb
      replace HB := bt_ HB hb
      clear hb hbox hg
      refine hK.out _ _ ⟨cz_ BK156 0, cz_ BK156 1, cz_ BK156 2, cz_ BK155 0, cz_ BK155 1, cz_ BK155 2⟩ (fun hHeld => ?_)
      clear hK K
      refine nm_ (some 7) ?_
      refine on_ HT_ 9 (some 24) (bv_ 16 9215) (fun K hK => ?_)
      refine gs_ Try.func157 #[.int .i64 a0, .int .i64 a2_1, .int .i64 t157, .int .i64 a1_0] ?_
      with_reducible refine (spec_l01Of.calls k a0 a2_1 t157 a1_0 t158 t159 t160 true _ A11.out).mono ?_
      rintro e w20 ⟨rfl, hb⟩
      refine ⟨_, rfl, ?_⟩
      replace BK155 := bb_ BK155 hb
      replace BK156 := bb_ BK156 hb
      replace BK162 := bb_ BK162 hb
      replace HB := bt_ HB hb
      (try clear hb)
      (try clear hb2)
      (try clear hk)
      (try clear hi)
      refine hK.out _ _ ⟨cz_ BK156 0, cz_ BK156 1, cz_ BK156 2, cz_ BK155 0, cz_ BK155 1, cz_ BK155 2⟩ (fun hHeld => ?_)
      clear hK K
      refine nm_ (some 24) ?_
      refine pu_ HT_ 10 (some 14) (bv_ 16 10239) ?_
      refine pu_ HT_ 11 (some 25) (bv_ 16 12287) ?_
      refine pu_ HT_ 12 (some 26) (bv_ 16 16383) ?_
      exact norm_ (by simp only [putAll, Act.put, lstS, lstZ, lstC]) (hCont (gb162) _ ⟨hHeld, (bl_ BK155).out, (bl_ BK156).out, (bl_ BK162).out, GW162.out, GE162.out, NB155_162.out, NB162_155.out, NB156_162.out, NB162_156.out, (bw_ HB).out⟩)
    ·skip
     refine bz_ 7 #[.int .i64 0, .int .i64 0, .int .i64 0] 39 ?_
     intro gb162 hg w19 hbox hb
     have BK162 := Aside0.mk (hbox)
     have GW162 := bs_ HB hg
     have GE162 := bs_ HB hg
     have NB155_162 := bm_ BK155 hg
     have NB162_155 := bn_ BK155 hg
     have NB156_162 := bm_ BK156 hg
     have NB162_156 := bn_ BK156 hg
     replace BK155 := bb_ BK155 hb
     replace BK156 := bb_ BK156 hb
     replace HB := bt_ HB hb
     clear hb hbox hg
     refine hK.out _ _ ⟨cz_ BK156 0, cz_ BK156 1, cz_ BK156 2, cz_ BK155 0, cz_ BK155 1, cz_ BK155 2⟩ (fun hHeld => ?_)
     clear hK K
     refine nm_ (some 7) ?_
     refine on_ HT_ 6 (some 21) (bv_ 16 8703) (fun K hK => ?_)
     refine gs_ Try.func156 #[.int .i64 a0, .int .i64 a2_2] ?_
     with_reducible refine (spec_l01Power.calls k a0 a2_2 t157 _ A10.out).mono ?_
     rintro e w' ⟨rfl, ⟨nd, rfl⟩⟩
     refine ⟨_, rfl, ?_⟩
     refine hK.out _ _ ⟨cz_ BK156 0, cz_ BK156 1, cz_ BK156 2, cz_ BK155 0, cz_ BK155 1, cz_ BK155 2⟩ (fun hHeld => ?_)
     clear hK K
     refine nm_ (some 21) ?_
     refine on_ HT_ 9 (some 24) (bv_ 16 9215) (fun K hK => ?_)
     refine gs_ Try.func157 #[.int .i64 a0, .int .i64 a2_1, .int .i64 t157, .int .i64 a1_0] ?_
     with_reducible refine (spec_l01Of.calls k a0 a2_1 t157 a1_0 t158 t159 t160 true _ A11.out).mono ?_
     rintro e w20 ⟨rfl, hb⟩
     refine ⟨_, rfl, ?_⟩
     replace BK155 := bb_ BK155 hb
     replace BK156 := bb_ BK156 hb
     replace BK162 := bb_ BK162 hb
     replace HB := bt_ HB hb
     (try clear hb)
     (try clear hb2)
     (try clear hk)
     (try clear hi)
     refine hK.out _ _ ⟨cz_ BK156 0, cz_ BK156 1, cz_ BK156 2, cz_ BK155 0, cz_ BK155 1, cz_ BK155 2⟩ (fun hHeld => ?_)
     clear hK K
     refine nm_ (some 24) ?_
     refine pu_ HT_ 10 (some 14) (bv_ 16 10239) ?_
     refine pu_ HT_ 11 (some 25) (bv_ 16 12287) ?_
     refine pu_ HT_ 12 (some 26) (bv_ 16 16383) ?_
     exact norm_ (by simp only [putAll, Act.put, lstS, lstZ, lstC]) (hCont (gb162) _ ⟨hHeld, (bl_ BK155).out, (bl_ BK156).out, (bl_ BK162).out, GW162.out, GE162.out, NB155_162.out, NB162_155.out, NB156_162.out, NB162_156.out, (bw_ HB).out⟩)
   rintro gb162 w21 ⟨hS_, h0_, h1_, h2_, h3_, h4_, h5_, h6_, h7_, h8_, h9_⟩
   have n0_ : Aside0 (w21.heap[gb155]? = some (.cells #[.int .i64 a1_0, .int .i64 a1_1, .int .i64 a1_2] 39 (0, 0))) := ⟨h0_⟩
   have n1_ : Aside0 (w21.heap[gb156]? = some (.cells #[.int .i64 a2_0, .int .i64 a2_1, .int .i64 a2_2] 39 (0, 0))) := ⟨h1_⟩
   have n2_ : Aside0 (w21.heap[gb162]? = some (.cells #[.int .i64 0, .int .i64 0, .int .i64 0] 39 (0, 0))) := ⟨h2_⟩
   have n3_ : Aside0 (w.heap.size ≤ gb162) := ⟨h3_⟩
   have n4_ : Aside0 (w.heap.size ≤ gb162) := ⟨h4_⟩
   have n5_ : Aside0 (gb155 ≠ gb162) := ⟨h5_⟩
   have n6_ : Aside0 (gb162 ≠ gb155) := ⟨h6_⟩
   have n7_ : Aside0 (gb156 ≠ gb162) := ⟨h7_⟩
   have n8_ : Aside0 (gb162 ≠ gb156) := ⟨h8_⟩
   have n9_ : Aside0 (Below w.heap.size w w21) := ⟨h9_⟩
   clear BK155
   clear BK156
   clear HB
   clear h0_ h1_ h2_ h3_ h4_ h5_ h6_ h7_ h8_ h9_
   have BK155 := n0_
   have BK156 := n1_
   have BK162 := n2_
   have GW162 := n3_
   have GE162 := n4_
   have NB155_162 := n5_
   have NB162_155 := n6_
   have NB156_162 := n7_
   have NB162_156 := n8_
   have HB := n9_
   clear n0_ n1_ n2_ n3_ n4_ n5_ n6_ n7_ n8_ n9_
   have hHeld : w21.cell? ⟨gb156, 0, none⟩ = some (.int .i64 a2_0) ∧ w21.cell? ⟨gb156, 1, none⟩ = some (.int .i64 a2_1) ∧ w21.cell? ⟨gb156, 2, none⟩ = some (.int .i64 a2_2) ∧ w21.cell? ⟨gb155, 0, none⟩ = some (.int .i64 a1_0) ∧ w21.cell? ⟨gb155, 1, none⟩ = some (.int .i64 a1_1) ∧ w21.cell? ⟨gb155, 2, none⟩ = some (.int .i64 a1_2) := hS_
   refine norm_ (a' := ?_) ?_ ?_
   rotate_left
   ·simp only [putAll, Act.put, lstS, lstZ, lstC]
    rfl
   refine on_ HT_ 14 none (bv_ 16 32767) (fun K hK => ?_)
   have hs22 : w21.cell? ⟨gb162, 0, none⟩ = some (.int .i64 0) := (blk_cell BK162.out 0).trans rfl
   have hfs22 := blk_frozen BK162.out 0
   have hns22_0 := NB155_162.out
   have hns22_1 := NB156_162.out
   have hms22_0 := NB162_155.out
   have hms22_1 := NB162_156.out
   have hs23 : w21.cell? ⟨gb162, 1, none⟩ = some (.int .i64 0) := (blk_cell BK162.out 1).trans rfl
   have hfs23 := blk_frozen BK162.out 1
   have hns23_0 := NB155_162.out
   have hns23_1 := NB156_162.out
   have hms23_0 := NB162_155.out
   have hms23_1 := NB162_156.out
   have hs24 : w21.cell? ⟨gb162, 2, none⟩ = some (.int .i64 0) := (blk_cell BK162.out 2).trans rfl
   have hfs24 := blk_frozen BK162.out 2
   have hns24_0 := NB155_162.out
   have hns24_1 := NB156_162.out
   have hms24_0 := NB162_155.out
   have hms24_1 := NB162_156.out
   refine skip_ (w1 := ?_) (by rfl) rfl ?_ ?_
   rotate_left
   ·go_simp
    rfl
   refine hK.out _ _ ⟨(cg_ NB156_162 ((cg_ NB156_162 ((cg_ NB156_162 (hHeld.1)))))), (cg_ NB156_162 ((cg_ NB156_162 ((cg_ NB156_162 (hHeld.2.1)))))), (cg_ NB156_162 ((cg_ NB156_162 ((cg_ NB156_162 (hHeld.2.2.1)))))), (cg_ NB155_162 ((cg_ NB155_162 ((cg_ NB155_162 (hHeld.2.2.2.1)))))), (cg_ NB155_162 ((cg_ NB155_162 ((cg_ NB155_162 (hHeld.2.2.2.2.1)))))), (cg_ NB155_162 ((cg_ NB155_162 ((cg_ NB155_162 (hHeld.2.2.2.2.2))))))⟩ (fun hHeld => ?_)
   clear hK K
   refine pu_ HT_ 15 (some 8) (bv_ 16 65535) ?_
   refine done_ (done_of HT_.out (by kernel_rfl)) ?_
   have hnb25 := NB162_155.out
   have hnc25 := NB155_162.out
   have hnb26 := NB162_156.out
   have hnc26 := NB156_162.out
   obtain ⟨hcz27_0, hcz27_1, hcz27_2, hfz27_0, hfz27_1, hfz27_2⟩ := ch3_ BK162
   obtain ⟨hcz28_0, hcz28_1, hcz28_2, hfz28_0, hfz28_1, hfz28_2⟩ := ch3_ BK155
   try go_wp2
   go_ret
   exact ⟨es_, (bw_ HB).out⟩
  ·replace c12 := Bool.eq_false_iff.mpr c12
   subst c12
   have H1 : (some false) = some r := by rw [if_neg (show ¬ (false = true) by decide)] at H; exact H
   clear H
   have H := H1
   clear H1
   obtain rfl := si_ H
   go_enter Try.func174, Try.ntmps174
   try go_wp2_with (first | (refine bx_ 4 #[.int .i64 a1_0, .int .i64 a1_1, .int .i64 a1_2] 39 ?_; intro gb155 hg w29 hbox hb; have BK155 := Aside0.mk (hbox); have GW155 := bs_ HB hg; have GE155 := bs_ HB hg; replace HB := bt_ HB hb; clear hb hbox hg) | (refine bx_ 5 #[.int .i64 a2_0, .int .i64 a2_1, .int .i64 a2_2] 39 ?_; intro gb156 hg w30 hbox hb; have BK156 := Aside0.mk (hbox); have GW156 := bs_ HB hg; have GE156 := bs_ HB hg; have NB155_156 := bm_ BK155 hg; have NB156_155 := bn_ BK155 hg; replace BK155 := bb_ BK155 hb; replace HB := bt_ HB hb; clear hb hbox hg; have hnb31 := NB155_156.out; have hnc31 := NB156_155.out; obtain ⟨hcz32_0, hcz32_1, hcz32_2, hfz32_0, hfz32_1, hfz32_2⟩ := ch3_ BK155; obtain ⟨hcz33_0, hcz33_1, hcz33_2, hfz33_0, hfz33_1, hfz33_2⟩ := ch3_ BK156))
   replace BK155 := Aside0.mk (blk_drew BK155.out)
   replace BK156 := Aside0.mk (blk_drew BK156.out)
   replace HB := Aside0.mk (below_drew1 HB.out)
   refine start_ (n := 16) (S := fun w' => w'.cell? ⟨gb156, 0, none⟩ = some (.int .i64 a2_0) ∧ w'.cell? ⟨gb156, 1, none⟩ = some (.int .i64 a2_1) ∧ w'.cell? ⟨gb156, 2, none⟩ = some (.int .i64 a2_2) ∧ w'.cell? ⟨gb155, 0, none⟩ = some (.int .i64 a1_0) ∧ w'.cell? ⟨gb155, 1, none⟩ = some (.int .i64 a1_1) ∧ w'.cell? ⟨gb155, 2, none⟩ = some (.int .i64 a1_2)) (ds := []) (bv_ 16 0) (by kernel_rfl) rfl rfl ⟨cz_ BK156 0, cz_ BK156 1, cz_ BK156 2, cz_ BK155 0, cz_ BK155 1, cz_ BK155 2⟩ (fun hHeld => ?_); refine with_tabW spec_l01Holds.tab3 spec_l01Holds.bits3 (fun HT_ HW_ => ?_)
   generalize w30.drew = w34 at BK155 BK156 HB hHeld ⊢
   refine pu_ HT_ 0 (some 15) (bv_ 16 1) ?_
   refine pu_ HT_ 1 (some 16) (bv_ 16 3) ?_
   refine pu_ HT_ 3 (some 18) (bv_ 16 11) ?_
   refine pu_ HT_ 4 (some 19) (bv_ 16 27) ?_
   refine pu_ HT_ 7 (some 22) (bv_ 16 155) ?_
   refine ta_ HT_ HW_ 2 (some 17) (bv_ 16 159) hHeld ?_ (hy := by rintro w' ⟨s0, s1, s2, s3, s4, s5⟩; go_simp; with_reducible rfl)
   refine ta_ HT_ HW_ 5 (some 20) (bv_ 16 191) hHeld ?_ (hy := by rintro w' ⟨s0, s1, s2, s3, s4, s5⟩; go_simp; with_reducible rfl)
   refine ta_ HT_ HW_ 8 (some 23) (bv_ 16 447) hHeld ?_ (hy := by rintro w' ⟨s0, s1, s2, s3, s4, s5⟩; go_simp; with_reducible rfl)
   refine join_ (σ := Nat) 2 (bv_ 16 16383) (fun s_ => [(21, .int .i64 t157), (24, .tuple #[.agg #[.int .i64 t158, .int .i64 t159, .int .i64 t160], .bool false]), (7, .pointer (some ⟨s_, 0, none⟩)), (14, .tuple #[.agg #[.int .i64 t158, .int .i64 t159, .int .i64 t160], .bool false]), (25, .agg #[.int .i64 t158, .int .i64 t159, .int .i64 t160]), (26, .bool false)]) (fun s_ w' => (w'.cell? ⟨gb156, 0, none⟩ = some (.int .i64 a2_0) ∧ w'.cell? ⟨gb156, 1, none⟩ = some (.int .i64 a2_1) ∧ w'.cell? ⟨gb156, 2, none⟩ = some (.int .i64 a2_2) ∧ w'.cell? ⟨gb155, 0, none⟩ = some (.int .i64 a1_0) ∧ w'.cell? ⟨gb155, 1, none⟩ = some (.int .i64 a1_1) ∧ w'.cell? ⟨gb155, 2, none⟩ = some (.int .i64 a1_2)) ∧ (w'.heap[gb155]? = some (.cells #[.int .i64 a1_0, .int .i64 a1_1, .int .i64 a1_2] 39 (0, 0))) ∧ (w'.heap[gb156]? = some (.cells #[.int .i64 a2_0, .int .i64 a2_1, .int .i64 a2_2] 39 (0, 0))) ∧ (w'.heap[s_]? = some (.cells #[.int .i64 0, .int .i64 0, .int .i64 0] 39 (0, 0))) ∧ (w.heap.size ≤ s_) ∧ (w.heap.size ≤ s_) ∧ (gb155 ≠ s_) ∧ (s_ ≠ gb155) ∧ (gb156 ≠ s_) ∧ (s_ ≠ gb156) ∧ (Below w.heap.size w w')) ?_ ?_
   rotate_left
   ·intro hCont
    refine tw_ HT_ 6 13 (some 21) (some 7) (bv_ 16 511) (bv_ 16 8639) (fun K hK => ?_) (fun K hK => ?_)
    ·skip
     refine gs_ Try.func156 #[.int .i64 a0, .int .i64 a2_2] ?_
     with_reducible refine (spec_l01Power.calls k a0 a2_2 t157 _ A10.out).mono ?_
     rintro e w' ⟨rfl, ⟨nd, rfl⟩⟩
     refine ⟨_, rfl, ?_⟩
     refine hK.out _ _ ⟨cz_ BK156 0, cz_ BK156 1, cz_ BK156 2, cz_ BK155 0, cz_ BK155 1, cz_ BK155 2⟩ (fun hHeld => ?_)
     clear hK K
     refine nm_ (some 21) ?_
     refine tw_ HT_ 9 13 (some 24) (some 7) (bv_ 16 1023) (bv_ 16 8703) (fun K hK => ?_) (fun K hK => ?_)
     ·skip
      refine gs_ Try.func157 #[.int .i64 a0, .int .i64 a2_1, .int .i64 t157, .int .i64 a1_0] ?_
      with_reducible refine (spec_l01Of.calls k a0 a2_1 t157 a1_0 t158 t159 t160 false _ A11.out).mono ?_
      rintro e w35 ⟨rfl, hb⟩
      refine ⟨_, rfl, ?_⟩
      replace BK155 := bb_ BK155 hb
      replace BK156 := bb_ BK156 hb
      replace HB := bt_ HB hb
      (try clear hb)
      (try clear hb2)
      (try clear hk)
      (try clear hi)
      refine hK.out _ _ ⟨cz_ BK156 0, cz_ BK156 1, cz_ BK156 2, cz_ BK155 0, cz_ BK155 1, cz_ BK155 2⟩ (fun hHeld => ?_)
      clear hK K
      refine nm_ (some 24) ?_
      refine pu_ HT_ 10 (some 14) (bv_ 16 2047) ?_
      refine pu_ HT_ 11 (some 25) (bv_ 16 4095) ?_
      refine pu_ HT_ 12 (some 26) (bv_ 16 8191) ?_
      refine on_ HT_ 13 (some 7) (bv_ 16 16383) (fun K hK => ?_)
      refine bz_ 7 #[.int .i64 0, .int .i64 0, .int .i64 0] 39 ?_
      intro gb162 hg w36 hbox hb
      have BK162 := Aside0.mk (hbox)
      have GW162 := bs_ HB hg
      have GE162 := bs_ HB hg
      have NB155_162 := bm_ BK155 hg
      have NB162_155 := bn_ BK155 hg
      have NB156_162 := bm_ BK156 hg
      have NB162_156 := bn_ BK156 hg
      replace BK155 := bb_ BK155 hb
      replace BK156 := bb_ BK156 hb
      replace HB := bt_ HB hb
      clear hb hbox hg
      refine hK.out _ _ ⟨cz_ BK156 0, cz_ BK156 1, cz_ BK156 2, cz_ BK155 0, cz_ BK155 1, cz_ BK155 2⟩ (fun hHeld => ?_)
      clear hK K
      refine nm_ (some 7) ?_
      exact norm_ (by simp only [putAll, Act.put, lstS, lstZ, lstC]) (hCont (gb162) _ ⟨hHeld, (bl_ BK155).out, (bl_ BK156).out, (bl_ BK162).out, GW162.out, GE162.out, NB155_162.out, NB162_155.out, NB156_162.out, NB162_156.out, (bw_ HB).out⟩)
     ·skip
      refine bz_ 7 #[.int .i64 0, .int .i64 0, .int .i64 0] 39 ?_
      intro gb162 hg w35 hbox hb
      have BK162 := Aside0.mk (hbox)
      have GW162 := bs_ HB hg
      have GE162 := bs_ HB hg
      have NB155_162 := bm_ BK155 hg
      have NB162_155 := bn_ BK155 hg
      have NB156_162 := bm_ BK156 hg
      have NB162_156 := bn_ BK156 hg
      replace BK155 := bb_ BK155 hb
      replace BK156 := bb_ BK156 hb
      replace HB := bt_ HB hb
      clear hb hbox hg
      refine hK.out _ _ ⟨cz_ BK156 0, cz_ BK156 1, cz_ BK156 2, cz_ BK155 0, cz_ BK155 1, cz_ BK155 2⟩ (fun hHeld => ?_)
      clear hK K
      refine nm_ (some 7) ?_
      refine on_ HT_ 9 (some 24) (bv_ 16 9215) (fun K hK => ?_)
      refine gs_ Try.func157 #[.int .i64 a0, .int .i64 a2_1, .int .i64 t157, .int .i64 a1_0] ?_
      with_reducible refine (spec_l01Of.calls k a0 a2_1 t157 a1_0 t158 t159 t160 false _ A11.out).mono ?_
      rintro e w36 ⟨rfl, hb⟩
      refine ⟨_, rfl, ?_⟩
      replace BK155 := bb_ BK155 hb
      replace BK156 := bb_ BK156 hb
      replace BK162 := bb_ BK162 hb
      replace HB := bt_ HB hb
      (try clear hb)
      (try clear hb2)
      (try clear hk)
      (try clear hi)
      refine hK.out _ _ ⟨cz_ BK156 0, cz_ BK156 1, cz_ BK156 2, cz_ BK155 0, cz_ BK155 1, cz_ BK155 2⟩ (fun hHeld => ?_)
      clear hK K
      refine nm_ (some 24) ?_
      refine pu_ HT_ 10 (some 14) (bv_ 16 10239) ?_
      refine pu_ HT_ 11 (some 25) (bv_ 16 12287) ?_
      refine pu_ HT_ 12 (some 26) (bv_ 16 16383) ?_
      exact norm_ (by simp only [putAll, Act.put, lstS, lstZ, lstC]) (hCont (gb162) _ ⟨hHeld, (bl_ BK155).out, (bl_ BK156).out, (bl_ BK162).out, GW162.out, GE162.out, NB155_162.out, NB162_155.out, NB156_162.out, NB162_156.out, (bw_ HB).out⟩)
    ·skip
     refine bz_ 7 #[.int .i64 0, .int .i64 0, .int .i64 0] 39 ?_
     intro gb162 hg w35 hbox hb
     have BK162 := Aside0.mk (hbox)
     have GW162 := bs_ HB hg
     have GE162 := bs_ HB hg
     have NB155_162 := bm_ BK155 hg
     have NB162_155 := bn_ BK155 hg
     have NB156_162 := bm_ BK156 hg
     have NB162_156 := bn_ BK156 hg
     replace BK155 := bb_ BK155 hb
     replace BK156 := bb_ BK156 hb
     replace HB := bt_ HB hb
     clear hb hbox hg
     refine hK.out _ _ ⟨cz_ BK156 0, cz_ BK156 1, cz_ BK156 2, cz_ BK155 0, cz_ BK155 1, cz_ BK155 2⟩ (fun hHeld => ?_)
     clear hK K
     refine nm_ (some 7) ?_
     refine on_ HT_ 6 (some 21) (bv_ 16 8703) (fun K hK => ?_)
     refine gs_ Try.func156 #[.int .i64 a0, .int .i64 a2_2] ?_
     with_reducible refine (spec_l01Power.calls k a0 a2_2 t157 _ A10.out).mono ?_
     rintro e w' ⟨rfl, ⟨nd, rfl⟩⟩
     refine ⟨_, rfl, ?_⟩
     refine hK.out _ _ ⟨cz_ BK156 0, cz_ BK156 1, cz_ BK156 2, cz_ BK155 0, cz_ BK155 1, cz_ BK155 2⟩ (fun hHeld => ?_)
     clear hK K
     refine nm_ (some 21) ?_
     refine on_ HT_ 9 (some 24) (bv_ 16 9215) (fun K hK => ?_)
     refine gs_ Try.func157 #[.int .i64 a0, .int .i64 a2_1, .int .i64 t157, .int .i64 a1_0] ?_
     with_reducible refine (spec_l01Of.calls k a0 a2_1 t157 a1_0 t158 t159 t160 false _ A11.out).mono ?_
     rintro e w36 ⟨rfl, hb⟩
     refine ⟨_, rfl, ?_⟩
     replace BK155 := bb_ BK155 hb
     replace BK156 := bb_ BK156 hb
     replace BK162 := bb_ BK162 hb
     replace HB := bt_ HB hb
     (try clear hb)
     (try clear hb2)
     (try clear hk)
     (try clear hi)
     refine hK.out _ _ ⟨cz_ BK156 0, cz_ BK156 1, cz_ BK156 2, cz_ BK155 0, cz_ BK155 1, cz_ BK155 2⟩ (fun hHeld => ?_)
     clear hK K
     refine nm_ (some 24) ?_
     refine pu_ HT_ 10 (some 14) (bv_ 16 10239) ?_
     refine pu_ HT_ 11 (some 25) (bv_ 16 12287) ?_
     refine pu_ HT_ 12 (some 26) (bv_ 16 16383) ?_
     exact norm_ (by simp only [putAll, Act.put, lstS, lstZ, lstC]) (hCont (gb162) _ ⟨hHeld, (bl_ BK155).out, (bl_ BK156).out, (bl_ BK162).out, GW162.out, GE162.out, NB155_162.out, NB162_155.out, NB156_162.out, NB162_156.out, (bw_ HB).out⟩)
   rintro gb162 w37 ⟨hS_, h0_, h1_, h2_, h3_, h4_, h5_, h6_, h7_, h8_, h9_⟩
   have n0_ : Aside0 (w37.heap[gb155]? = some (.cells #[.int .i64 a1_0, .int .i64 a1_1, .int .i64 a1_2] 39 (0, 0))) := ⟨h0_⟩
   have n1_ : Aside0 (w37.heap[gb156]? = some (.cells #[.int .i64 a2_0, .int .i64 a2_1, .int .i64 a2_2] 39 (0, 0))) := ⟨h1_⟩
   have n2_ : Aside0 (w37.heap[gb162]? = some (.cells #[.int .i64 0, .int .i64 0, .int .i64 0] 39 (0, 0))) := ⟨h2_⟩
   have n3_ : Aside0 (w.heap.size ≤ gb162) := ⟨h3_⟩
   have n4_ : Aside0 (w.heap.size ≤ gb162) := ⟨h4_⟩
   have n5_ : Aside0 (gb155 ≠ gb162) := ⟨h5_⟩
   have n6_ : Aside0 (gb162 ≠ gb155) := ⟨h6_⟩
   have n7_ : Aside0 (gb156 ≠ gb162) := ⟨h7_⟩
   have n8_ : Aside0 (gb162 ≠ gb156) := ⟨h8_⟩
   have n9_ : Aside0 (Below w.heap.size w w37) := ⟨h9_⟩
   clear BK155
   clear BK156
   clear HB
   clear h0_ h1_ h2_ h3_ h4_ h5_ h6_ h7_ h8_ h9_
   have BK155 := n0_
   have BK156 := n1_
   have BK162 := n2_
   have GW162 := n3_
   have GE162 := n4_
   have NB155_162 := n5_
   have NB162_155 := n6_
   have NB156_162 := n7_
   have NB162_156 := n8_
   have HB := n9_
   clear n0_ n1_ n2_ n3_ n4_ n5_ n6_ n7_ n8_ n9_
   have hHeld : w37.cell? ⟨gb156, 0, none⟩ = some (.int .i64 a2_0) ∧ w37.cell? ⟨gb156, 1, none⟩ = some (.int .i64 a2_1) ∧ w37.cell? ⟨gb156, 2, none⟩ = some (.int .i64 a2_2) ∧ w37.cell? ⟨gb155, 0, none⟩ = some (.int .i64 a1_0) ∧ w37.cell? ⟨gb155, 1, none⟩ = some (.int .i64 a1_1) ∧ w37.cell? ⟨gb155, 2, none⟩ = some (.int .i64 a1_2) := hS_
   refine norm_ (a' := ?_) ?_ ?_
   rotate_left
   ·simp only [putAll, Act.put, lstS, lstZ, lstC]
    rfl
   refine on_ HT_ 14 none (bv_ 16 32767) (fun K hK => ?_)
   have hs38 : w37.cell? ⟨gb162, 0, none⟩ = some (.int .i64 0) := (blk_cell BK162.out 0).trans rfl
   have hfs38 := blk_frozen BK162.out 0
   have hns38_0 := NB155_162.out
   have hns38_1 := NB156_162.out
   have hms38_0 := NB162_155.out
   have hms38_1 := NB162_156.out
   have hs39 : w37.cell? ⟨gb162, 1, none⟩ = some (.int .i64 0) := (blk_cell BK162.out 1).trans rfl
   have hfs39 := blk_frozen BK162.out 1
   have hns39_0 := NB155_162.out
   have hns39_1 := NB156_162.out
   have hms39_0 := NB162_155.out
   have hms39_1 := NB162_156.out
   have hs40 : w37.cell? ⟨gb162, 2, none⟩ = some (.int .i64 0) := (blk_cell BK162.out 2).trans rfl
   have hfs40 := blk_frozen BK162.out 2
   have hns40_0 := NB155_162.out
   have hns40_1 := NB156_162.out
   have hms40_0 := NB162_155.out
   have hms40_1 := NB162_156.out
   refine skip_ (w1 := ?_) (by rfl) rfl ?_ ?_
   rotate_left
   ·go_simp
    rfl
   refine hK.out _ _ ⟨(cg_ NB156_162 ((cg_ NB156_162 ((cg_ NB156_162 (hHeld.1)))))), (cg_ NB156_162 ((cg_ NB156_162 ((cg_ NB156_162 (hHeld.2.1)))))), (cg_ NB156_162 ((cg_ NB156_162 ((cg_ NB156_162 (hHeld.2.2.1)))))), (cg_ NB155_162 ((cg_ NB155_162 ((cg_ NB155_162 (hHeld.2.2.2.1)))))), (cg_ NB155_162 ((cg_ NB155_162 ((cg_ NB155_162 (hHeld.2.2.2.2.1)))))), (cg_ NB155_162 ((cg_ NB155_162 ((cg_ NB155_162 (hHeld.2.2.2.2.2))))))⟩ (fun hHeld => ?_)
   clear hK K
   refine pu_ HT_ 15 (some 8) (bv_ 16 65535) ?_
   refine done_ (done_of HT_.out (by kernel_rfl)) ?_
   try go_wp2
   go_ret
   exact ⟨es_, (bw_ HB).out⟩
/-! ### spec_l09Apart: function 193 -/
def spec_l09Apart.j0 : Nat → Int → Bool → Int → Int → Int → Bool → Int → Int → Int → Bool → Option (Bool)
 | 0, _, _, _, _, _, _, _, _, _, _ => none
 | k + 1, x0, x7, x164000, x164001, x164002, x164003, x165000, x165001, x165002, x165003 => if x7 = true then (some false) else (if x164003 = true then ((spec_l01Holds.f k x0 x164000 x164001 x164002 x165000 x165001 x165002).bind fun t165 => (some t165)) else (if x165003 = true then ((spec_l01Holds.f k x0 x165000 x165001 x165002 x164000 x164001 x164002).bind fun t166 => (some t166)) else ((spec_l01Holds.f k x0 x164000 x164001 x164002 x165000 x165001 x165002).bind fun t167 => (if t167 = true then (some false) else ((spec_l01Holds.f k x0 x165000 x165001 x165002 x164000 x164001 x164002).bind fun t168 => (some (!t168)))))))
def spec_l09Apart.f (k : Nat) (a0 : Int) (a1_0 : Int) (a1_1 : Int) (a1_2 : Int) (a1_3 : Bool) (a2_0 : Int) (a2_1 : Int) (a2_2 : Int) (a2_3 : Bool) : Option (Bool) := if a1_3 = true then (spec_l09Apart.j0 k a0 a2_3 a1_0 a1_1 a1_2 a1_3 a2_0 a2_1 a2_2 a2_3) else (spec_l09Apart.j0 k a0 false a1_0 a1_1 a1_2 a1_3 a2_0 a2_1 a2_2 a2_3)
theorem spec_l09Apart.calls (k : Nat) (a0 : Int) (a1_0 : Int) (a1_1 : Int) (a1_2 : Int) (a1_3 : Bool) (a2_0 : Int) (a2_1 : Int) (a2_2 : Int) (a2_3 : Bool) (r : Bool) (w : World) (h : spec_l09Apart.f k a0 a1_0 a1_1 a1_2 a1_3 a2_0 a2_1 a2_2 a2_3 = some r) :
  Calls Try.prog 193 #[.int .i64 a0, .agg #[.int .i64 a1_0, .int .i64 a1_1, .int .i64 a1_2, .bool a1_3], .agg #[.int .i64 a2_0, .int .i64 a2_1, .int .i64 a2_2, .bool a2_3]] w fun e w' => e = .returned (.bool r) ∧ Below w.heap.size w w' := by
 have hu59 := Try.underlying59
 have hu39 := Try.underlying39
 have HB := Aside0.mk (Below.refl w.heap.size w)
 have H : (if a1_3 = true then (spec_l09Apart.j0 k a0 a2_3 a1_0 a1_1 a1_2 a1_3 a2_0 a2_1 a2_2 a2_3) else (spec_l09Apart.j0 k a0 false a1_0 a1_1 a1_2 a1_3 a2_0 a2_1 a2_2 a2_3)) = some r := h
 clear h
 have HC4 := Aside0.mk H
 clear H
 go_enter Try.func193, Try.ntmps193
 go_upto_region 1 with (first | (refine bx_ 4 #[.int .i64 a1_0, .int .i64 a1_1, .int .i64 a1_2, .bool a1_3] 59 ?_; intro gb163 hg w5 hbox hb; have BK163 := Aside0.mk (hbox); have GW163 := bs_ HB hg; have GE163 := bs_ HB hg; replace HB := bt_ HB hb; clear hb hbox hg) | (refine bx_ 5 #[.int .i64 a2_0, .int .i64 a2_1, .int .i64 a2_2, .bool a2_3] 59 ?_; intro gb164 hg w6 hbox hb; have BK164 := Aside0.mk (hbox); have GW164 := bs_ HB hg; have GE164 := bs_ HB hg; have NB163_164 := bm_ BK163 hg; have NB164_163 := bn_ BK163 hg; replace BK163 := bb_ BK163 hb; replace HB := bt_ HB hb; clear hb hbox hg))
 (try simp only [Act.put, lstS, lstZ, lstC])
 go_cut [7] (fun v7 wc => ∃ (kq : Nat) (x7_3 : Bool), v7 = .bool x7_3 ∧ Aside0 (spec_l09Apart.j0 kq a0 x7_3 a1_0 a1_1 a1_2 a1_3 a2_0 a2_1 a2_2 a2_3 = some r) ∧ Aside0 (kq ≤ k) ∧ Aside0 (wc.heap[gb163]? = some (.cells #[.int .i64 a1_0, .int .i64 a1_1, .int .i64 a1_2, .bool a1_3] 59 (0, 0))) ∧ Aside0 (wc.heap[gb164]? = some (.cells #[.int .i64 a2_0, .int .i64 a2_1, .int .i64 a2_2, .bool a2_3] 59 (0, 0))) ∧ Aside0 (Below w.heap.size w wc))
 case first =>
  have H := HC4.out
  clear HC4
  by_cases c7 : a1_3 = true
  ·subst c7
   have H1 : (spec_l09Apart.j0 k a0 a2_3 a1_0 a1_1 a1_2 true a2_0 a2_1 a2_2 a2_3) = some r := by rw [if_pos rfl] at H; exact H
   clear H
   have H := H1
   clear H1
   have H' := Aside0.mk H
   clear H
   have hnb8 := NB163_164.out
   have hnc8 := NB164_163.out
   obtain ⟨hcz9_0, hcz9_1, hcz9_2, hcz9_3, hfz9_0, hfz9_1, hfz9_2, hfz9_3⟩ := ch4_ BK163
   obtain ⟨hcz10_0, hcz10_1, hcz10_2, hcz10_3, hfz10_0, hfz10_1, hfz10_2, hfz10_3⟩ := ch4_ BK164
   go_wp2
   go_meet
   case rel => exact ⟨_, (a2_3), en_, H', ⟨by first | omega | exact Nat.le_refl _⟩, bl_ BK163, bl_ BK164, bw_ HB⟩
  ·replace c7 := Bool.eq_false_iff.mpr c7
   subst c7
   have H1 : (spec_l09Apart.j0 k a0 false a1_0 a1_1 a1_2 false a2_0 a2_1 a2_2 a2_3) = some r := by rw [if_neg (show ¬ (false = true) by decide)] at H; exact H
   clear H
   have H := H1
   clear H1
   have H' := Aside0.mk H
   clear H
   have hnb11 := NB163_164.out
   have hnc11 := NB164_163.out
   obtain ⟨hcz12_0, hcz12_1, hcz12_2, hcz12_3, hfz12_0, hfz12_1, hfz12_2, hfz12_3⟩ := ch4_ BK163
   go_wp2
   go_meet
   case rel => exact ⟨_, (false), en_, H', ⟨by first | omega | exact Nat.le_refl _⟩, bl_ BK163, bl_ BK164, bw_ HB⟩
 case rest =>
  clear HC4
  try clear c1
  try clear p2
  try clear c7
  try clear c8
  try clear c11
  try clear hcz10_0 hcz10_1 hcz10_2 hcz10_3
  try clear hcz12_0 hcz12_1 hcz12_2 hcz12_3
  try clear hcz9_0 hcz9_1 hcz9_2 hcz9_3
  try clear hfz10_0 hfz10_1 hfz10_2 hfz10_3
  try clear hfz12_0 hfz12_1 hfz12_2 hfz12_3
  try clear hfz9_0 hfz9_1 hfz9_2 hfz9_3
  obtain ⟨kq, x7_3, rfl, HA, HJ3, BK163, BK164, HB⟩ := hcut
  cases kq with
  | zero => exact absurd HA.out (by simp [spec_l09Apart.j0])
  | succ kj3 =>
   have H := HA.out
   clear HA
   simp only [spec_l09Apart.j0] at H
   by_cases c13 : x7_3 = true
   ·subst c13
    have H1 : (some false) = some r := by rw [if_pos rfl] at H; exact H
    clear H
    have H := H1
    clear H1
    obtain rfl := si_ H
    go_wp2
    go_ret
    exact ⟨es_, (bw_ HB).out⟩
   ·replace c13 := Bool.eq_false_iff.mpr c13
    subst c13
    have H1 : (if a1_3 = true then ((spec_l01Holds.f kj3 a0 a1_0 a1_1 a1_2 a2_0 a2_1 a2_2).bind fun t165 => (some t165)) else (if a2_3 = true then ((spec_l01Holds.f kj3 a0 a2_0 a2_1 a2_2 a1_0 a1_1 a1_2).bind fun t166 => (some t166)) else ((spec_l01Holds.f kj3 a0 a1_0 a1_1 a1_2 a2_0 a2_1 a2_2).bind fun t167 => (if t167 = true then (some false) else ((spec_l01Holds.f kj3 a0 a2_0 a2_1 a2_2 a1_0 a1_1 a1_2).bind fun t168 => (some (!t168))))))) = some r := by rw [if_neg (show ¬ (false = true) by decide)] at H; exact H
    clear H
    have H := H1
    clear H1
    by_cases c14 : a1_3 = true
    ·subst c14
     have H1 : ((spec_l01Holds.f kj3 a0 a1_0 a1_1 a1_2 a2_0 a2_1 a2_2).bind fun t165 => (some t165)) = some r := by rw [if_pos rfl] at H; exact H
     clear H
     have H := H1
     clear H1
     replace H := ob_ H
     obtain ⟨t165, A150, H⟩ := H
     have A15 := Aside0.mk A150
     clear A150
     obtain rfl := si_ H
     have hnb16 := NB163_164.out
     have hnc16 := NB164_163.out
     obtain ⟨hcz17_0, hcz17_1, hcz17_2, hcz17_3, hfz17_0, hfz17_1, hfz17_2, hfz17_3⟩ := ch4_ BK163
     obtain ⟨hcz18_0, hcz18_1, hcz18_2, hcz18_3, hfz18_0, hfz18_1, hfz18_2, hfz18_3⟩ := ch4_ BK164
     go_wp2_with (first | (refine ge_ 22 Try.func174 #[.int .i64 a0, .agg #[.int .i64 a1_0, .int .i64 a1_1, .int .i64 a1_2], .agg #[.int .i64 a2_0, .int .i64 a2_1, .int .i64 a2_2]] ?_; (with_reducible refine (spec_l01Holds.calls kj3 a0 a1_0 a1_1 a1_2 a2_0 a2_1 a2_2 t165 _ A15.out).mono ?_); rintro e w19 ⟨rfl, hb⟩; refine ⟨_, rfl, ?_⟩; replace BK163 := bb_ BK163 hb; replace BK164 := bb_ BK164 hb; replace HB := bt_ HB hb; (try clear hb); (try clear hb2); (try clear hk); (try clear hi)))
     go_ret
     exact ⟨es_, (bw_ HB).out⟩
    ·replace c14 := Bool.eq_false_iff.mpr c14
     subst c14
     have H1 : (if a2_3 = true then ((spec_l01Holds.f kj3 a0 a2_0 a2_1 a2_2 a1_0 a1_1 a1_2).bind fun t166 => (some t166)) else ((spec_l01Holds.f kj3 a0 a1_0 a1_1 a1_2 a2_0 a2_1 a2_2).bind fun t167 => (if t167 = true then (some false) else ((spec_l01Holds.f kj3 a0 a2_0 a2_1 a2_2 a1_0 a1_1 a1_2).bind fun t168 => (some (!t168)))))) = some r := by rw [if_neg (show ¬ (false = true) by decide)] at H; exact H
     clear H
     have H := H1
     clear H1
     by_cases c20 : a2_3 = true
     ·subst c20
      have H1 : ((spec_l01Holds.f kj3 a0 a2_0 a2_1 a2_2 a1_0 a1_1 a1_2).bind fun t166 => (some t166)) = some r := by rw [if_pos rfl] at H; exact H
      clear H
      have H := H1
      clear H1
      replace H := ob_ H
      obtain ⟨t166, A210, H⟩ := H
      have A21 := Aside0.mk A210
      clear A210
      obtain rfl := si_ H
      have hnb22 := NB163_164.out
      have hnc22 := NB164_163.out
      obtain ⟨hcz23_0, hcz23_1, hcz23_2, hcz23_3, hfz23_0, hfz23_1, hfz23_2, hfz23_3⟩ := ch4_ BK163
      obtain ⟨hcz24_0, hcz24_1, hcz24_2, hcz24_3, hfz24_0, hfz24_1, hfz24_2, hfz24_3⟩ := ch4_ BK164
      go_wp2_with (first | (refine ge_ 31 Try.func174 #[.int .i64 a0, .agg #[.int .i64 a2_0, .int .i64 a2_1, .int .i64 a2_2], .agg #[.int .i64 a1_0, .int .i64 a1_1, .int .i64 a1_2]] ?_; (with_reducible refine (spec_l01Holds.calls kj3 a0 a2_0 a2_1 a2_2 a1_0 a1_1 a1_2 t166 _ A21.out).mono ?_); rintro e w25 ⟨rfl, hb⟩; refine ⟨_, rfl, ?_⟩; replace BK163 := bb_ BK163 hb; replace BK164 := bb_ BK164 hb; replace HB := bt_ HB hb; (try clear hb); (try clear hb2); (try clear hk); (try clear hi)))
      go_ret
      exact ⟨es_, (bw_ HB).out⟩
     ·replace c20 := Bool.eq_false_iff.mpr c20
      subst c20
      have H1 : ((spec_l01Holds.f kj3 a0 a1_0 a1_1 a1_2 a2_0 a2_1 a2_2).bind fun t167 => (if t167 = true then (some false) else ((spec_l01Holds.f kj3 a0 a2_0 a2_1 a2_2 a1_0 a1_1 a1_2).bind fun t168 => (some (!t168))))) = some r := by rw [if_neg (show ¬ (false = true) by decide)] at H; exact H
      clear H
      have H := H1
      clear H1
      replace H := ob_ H
      obtain ⟨t167, A260, H⟩ := H
      have A26 := Aside0.mk A260
      clear A260
      by_cases c27 : t167 = true
      ·subst c27
       have H1 : (some false) = some r := by rw [if_pos rfl] at H; exact H
       clear H
       have H := H1
       clear H1
       obtain rfl := si_ H
       have hnb28 := NB163_164.out
       have hnc28 := NB164_163.out
       obtain ⟨hcz29_0, hcz29_1, hcz29_2, hcz29_3, hfz29_0, hfz29_1, hfz29_2, hfz29_3⟩ := ch4_ BK163
       obtain ⟨hcz30_0, hcz30_1, hcz30_2, hcz30_3, hfz30_0, hfz30_1, hfz30_2, hfz30_3⟩ := ch4_ BK164
       go_wp2_with (first | (refine ge_ 37 Try.func174 #[.int .i64 a0, .agg #[.int .i64 a1_0, .int .i64 a1_1, .int .i64 a1_2], .agg #[.int .i64 a2_0, .int .i64 a2_1, .int .i64 a2_2]] ?_; (with_reducible refine (spec_l01Holds.calls kj3 a0 a1_0 a1_1 a1_2 a2_0 a2_1 a2_2 true _ A26.out).mono ?_); rintro e w31 ⟨rfl, hb⟩; refine ⟨_, rfl, ?_⟩; replace BK163 := bb_ BK163 hb; replace BK164 := bb_ BK164 hb; replace HB := bt_ HB hb; (try clear hb); (try clear hb2); (try clear hk); (try clear hi)))
       go_ret
       exact ⟨es_, (bw_ HB).out⟩
      ·replace c27 := Bool.eq_false_iff.mpr c27
       subst c27
       have H1 : ((spec_l01Holds.f kj3 a0 a2_0 a2_1 a2_2 a1_0 a1_1 a1_2).bind fun t168 => (some (!t168))) = some r := by rw [if_neg (show ¬ (false = true) by decide)] at H; exact H
       clear H
       have H := H1
       clear H1
       replace H := ob_ H
       obtain ⟨t168, A320, H⟩ := H
       have A32 := Aside0.mk A320
       clear A320
       obtain rfl := si_ H
       have hnb33 := NB163_164.out
       have hnc33 := NB164_163.out
       obtain ⟨hcz34_0, hcz34_1, hcz34_2, hcz34_3, hfz34_0, hfz34_1, hfz34_2, hfz34_3⟩ := ch4_ BK163
       obtain ⟨hcz35_0, hcz35_1, hcz35_2, hcz35_3, hfz35_0, hfz35_1, hfz35_2, hfz35_3⟩ := ch4_ BK164
       go_wp2_with (first | (refine ge_ 37 Try.func174 #[.int .i64 a0, .agg #[.int .i64 a1_0, .int .i64 a1_1, .int .i64 a1_2], .agg #[.int .i64 a2_0, .int .i64 a2_1, .int .i64 a2_2]] ?_; (with_reducible refine (spec_l01Holds.calls kj3 a0 a1_0 a1_1 a1_2 a2_0 a2_1 a2_2 false _ A26.out).mono ?_); rintro e w36 ⟨rfl, hb⟩; refine ⟨_, rfl, ?_⟩; replace BK163 := bb_ BK163 hb; replace BK164 := bb_ BK164 hb; replace HB := bt_ HB hb; (try clear hb); (try clear hb2); (try clear hk); (try clear hi); obtain ⟨hcz37_0, hcz37_1, hcz37_2, hcz37_3, hfz37_0, hfz37_1, hfz37_2, hfz37_3⟩ := ch4_ BK164; obtain ⟨hcz38_0, hcz38_1, hcz38_2, hcz38_3, hfz38_0, hfz38_1, hfz38_2, hfz38_3⟩ := ch4_ BK163) | (go_at_call 174; (with_reducible refine (spec_l01Holds.calls kj3 a0 a2_0 a2_1 a2_2 a1_0 a1_1 a1_2 t168 _ A32.out).mono ?_); rintro e w39 ⟨rfl, hb⟩; replace BK163 := bb_ BK163 hb; replace BK164 := bb_ BK164 hb; replace HB := bt_ HB hb; (try clear hb); (try clear hb2); (try clear hk); (try clear hi)))
       go_ret
       exact ⟨es_, (bw_ HB).out⟩
end Go.Proofs.Ytbilincmcnnonaa.QS
