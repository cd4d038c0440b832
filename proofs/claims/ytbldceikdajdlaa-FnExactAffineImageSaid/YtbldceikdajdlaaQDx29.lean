import Derived.Test.YtbldceikdajdlaaQDx4
import Derived.Test.YtbldceikdajdlaaQDx19
import Derived.Test.YtbldceikdajdlaaQDx28
namespace Go.Proofs.Ytbldceikdajdlaa.QD
open Go.RowKit Go.Proofs.YtbldceikdajdlaaW.PrintWords Go.Proofs.YtbldceikdajdlaaW.PrintLast Go.Proofs.YtbldceikdajdlaaW.PrintMore
attribute [local go_sem] isSome_setCell max2_int min2_int max_two min_two max_three min_three max_four min_four
set_option linter.unusedVariables false
set_option linter.unusedSimpArgs false

attribute [local go_sem high] eqA25
/-! ### spec_l01Holds: function 41 -/
def spec_l01Holds.f (k : Nat) (a0 : Int) (a1_0 : Int) (a1_1 : Int) (a1_2 : Int) (a2_0 : Int) (a2_1 : Int) (a2_2 : Int) : Option (Bool) := if a1_0 > a2_0 then (some false) else ((spec_l01Power.f k a0 a2_2).bind fun t242 => ((spec_l01Of.f k a0 a2_1 t242 a1_0).bind fun bt243 => (if bt243.2.2.2 = true then (some (bt243.1 == a1_0 && (bt243.2.1 == a1_1 && (bt243.2.2.1 == a1_2)))) else (some false))))
def spec_l01Holds.T3 : Bool × List (List Nat × List Nat) := (true, [([], []), ([], []), ([1], [1]), ([], []), ([], []), ([4], [4]), ([3, 5], [3, 5]), ([], []), ([7], [7]), ([0, 2, 6, 8, 6], [0, 2, 6, 8]), ([9], [9]), ([10], [10]), ([10], [10]), ([], []), ([13, 11, 9, 0, 1, 2, 3, 4, 5, 6, 7, 8, 9, 10, 11, 13], [11, 13]), ([12, 14, 0, 1, 2, 3, 4, 5, 6, 7, 8, 9, 10, 11, 12, 13, 14], [12])])
def spec_l01Holds.B3 : List Nat := [0, 0, 2, 0, 0, 16, 56, 0, 128, 511, 1023, 2047, 2047, 0, 12287, 32767]
theorem spec_l01Holds.tab3 : rtab .any (opsOf Try.f41 3) = spec_l01Holds.T3 := by kernel_rfl
theorem spec_l01Holds.bits3 : waitsOk spec_l01Holds.T3.2 spec_l01Holds.B3 = true := by kernel_rfl
set_option maxHeartbeats 8000000 in
set_option maxRecDepth 100000 in
theorem spec_l01Holds.calls (k : Nat) (a0 : Int) (a1_0 : Int) (a1_1 : Int) (a1_2 : Int) (a2_0 : Int) (a2_1 : Int) (a2_2 : Int) (r : Bool) (w : World) (h : spec_l01Holds.f k a0 a1_0 a1_1 a1_2 a2_0 a2_1 a2_2 = some r) :
  Calls Try.prog 41 #[.int .i64 a0, .agg #[.int .i64 a1_0, .int .i64 a1_1, .int .i64 a1_2], .agg #[.int .i64 a2_0, .int .i64 a2_1, .int .i64 a2_2]] w fun e w' => e = .returned (.bool r) ∧ Below w.heap.size w w' := by
 have hu25 := Try.underlying25
 have HB := Aside0.mk (Below.refl w.heap.size w)
 have H : (if a1_0 > a2_0 then (some false) else ((spec_l01Power.f k a0 a2_2).bind fun t242 => ((spec_l01Of.f k a0 a2_1 t242 a1_0).bind fun bt243 => (if bt243.2.2.2 = true then (some (bt243.1 == a1_0 && (bt243.2.1 == a1_1 && (bt243.2.2.1 == a1_2)))) else (some false))))) = some r := h
 clear h
 by_cases c4 : a1_0 > a2_0
 ·rw [if_pos c4] at H
  have c4b0 : decide (a2_0 < a1_0) = true := decide_eq_true c4
  clear c4
  obtain rfl := si_ H
  go_enter Try.func41, Try.ntmps41
  go_wp2_with (first | (refine bx_ 4 #[.int .i64 a1_0, .int .i64 a1_1, .int .i64 a1_2] 25 ?_; intro gb240 hg w5 hbox hb; have BK240 := Aside0.mk (hbox); have GW240 := bs_ HB hg; have GE240 := bs_ HB hg; replace HB := bt_ HB hb; clear hb hbox hg) | (refine bx_ 5 #[.int .i64 a2_0, .int .i64 a2_1, .int .i64 a2_2] 25 ?_; intro gb241 hg w6 hbox hb; have BK241 := Aside0.mk (hbox); have GW241 := bs_ HB hg; have GE241 := bs_ HB hg; have NB240_241 := bm_ BK240 hg; have NB241_240 := bn_ BK240 hg; replace BK240 := bb_ BK240 hb; replace HB := bt_ HB hb; clear hb hbox hg; have hnb7 := NB240_241.out; have hnc7 := NB241_240.out; obtain ⟨hcz8_0, hcz8_1, hcz8_2, hfz8_0, hfz8_1, hfz8_2⟩ := ch3_ BK240; obtain ⟨hcz9_0, hcz9_1, hcz9_2, hfz9_0, hfz9_1, hfz9_2⟩ := ch3_ BK241))
  go_ret
  exact ⟨es_, (bw_ HB).out⟩
 ·rw [if_neg c4] at H
  have c4b0 : decide (a2_0 < a1_0) = false := decide_eq_false c4
  clear c4
  replace H := ob_ H
  obtain ⟨t242, A100, H⟩ := H
  have A10 := Aside0.mk A100
  clear A100
  replace H := ob_ H
  obtain ⟨⟨t243, t244, t245, t246⟩, A110, H⟩ := H
  have A11 := Aside0.mk A110
  clear A110
  by_cases c12 : t246 = true
  ·subst c12
   have H1 : (some (t243 == a1_0 && (t244 == a1_1 && (t245 == a1_2)))) = some r := by rw [if_pos rfl] at H; exact H
   clear H
   have H := H1
   clear H1
   obtain rfl := si_ H
   go_enter Try.func41, Try.ntmps41
   try go_wp2_with (first | (refine bx_ 4 #[.int .i64 a1_0, .int .i64 a1_1, .int .i64 a1_2] 25 ?_; intro gb240 hg w13 hbox hb; have BK240 := Aside0.mk (hbox); have GW240 := bs_ HB hg; have GE240 := bs_ HB hg; replace HB := bt_ HB hb; clear hb hbox hg) | (refine bx_ 5 #[.int .i64 a2_0, .int .i64 a2_1, .int .i64 a2_2] 25 ?_; intro gb241 hg w14 hbox hb; have BK241 := Aside0.mk (hbox); have GW241 := bs_ HB hg; have GE241 := bs_ HB hg; have NB240_241 := bm_ BK240 hg; have NB241_240 := bn_ BK240 hg; replace BK240 := bb_ BK240 hb; replace HB := bt_ HB hb; clear hb hbox hg; have hnb15 := NB240_241.out; have hnc15 := NB241_240.out; obtain ⟨hcz16_0, hcz16_1, hcz16_2, hfz16_0, hfz16_1, hfz16_2⟩ := ch3_ BK240; obtain ⟨hcz17_0, hcz17_1, hcz17_2, hfz17_0, hfz17_1, hfz17_2⟩ := ch3_ BK241))
   replace BK240 := Aside0.mk (blk_drew BK240.out)
   replace BK241 := Aside0.mk (blk_drew BK241.out)
   replace HB := Aside0.mk (below_drew1 HB.out)
   refine start_ (n := 16) (S := fun w' => w'.cell? ⟨gb241, 0, none⟩ = some (.int .i64 a2_0) ∧ w'.cell? ⟨gb241, 1, none⟩ = some (.int .i64 a2_1) ∧ w'.cell? ⟨gb241, 2, none⟩ = some (.int .i64 a2_2) ∧ w'.cell? ⟨gb240, 0, none⟩ = some (.int .i64 a1_0) ∧ w'.cell? ⟨gb240, 1, none⟩ = some (.int .i64 a1_1) ∧ w'.cell? ⟨gb240, 2, none⟩ = some (.int .i64 a1_2)) (ds := []) (bv_ 16 0) (by kernel_rfl) rfl rfl ⟨cz_ BK241 0, cz_ BK241 1, cz_ BK241 2, cz_ BK240 0, cz_ BK240 1, cz_ BK240 2⟩ (fun hHeld => ?_); refine with_tabW spec_l01Holds.tab3 spec_l01Holds.bits3 (fun HT_ HW_ => ?_)
   generalize w14.drew = w18 at BK240 BK241 HB hHeld ⊢
   refine pu_ HT_ 0 (some 15) (bv_ 16 1) ?_
   refine pu_ HT_ 1 (some 16) (bv_ 16 3) ?_
   refine pu_ HT_ 3 (some 18) (bv_ 16 11) ?_
   refine pu_ HT_ 4 (some 19) (bv_ 16 27) ?_
   refine pu_ HT_ 7 (some 22) (bv_ 16 155) ?_
   refine ta_ HT_ HW_ 2 (some 17) (bv_ 16 159) hHeld ?_ (hy := by rintro w' ⟨s0, s1, s2, s3, s4, s5⟩; go_simp; with_reducible rfl)
   refine ta_ HT_ HW_ 5 (some 20) (bv_ 16 191) hHeld ?_ (hy := by rintro w' ⟨s0, s1, s2, s3, s4, s5⟩; go_simp; with_reducible rfl)
   refine ta_ HT_ HW_ 8 (some 23) (bv_ 16 447) hHeld ?_ (hy := by rintro w' ⟨s0, s1, s2, s3, s4, s5⟩; go_simp; with_reducible rfl)
   refine join_ (σ := Nat) 2 (bv_ 16 16383) (fun s_ => [(21, .int .i64 t242), (24, .tuple #[.agg #[.int .i64 t243, .int .i64 t244, .int .i64 t245], .bool true]), (7, .pointer (some ⟨s_, 0, none⟩)), (14, .tuple #[.agg #[.int .i64 t243, .int .i64 t244, .int .i64 t245], .bool true]), (25, .agg #[.int .i64 t243, .int .i64 t244, .int .i64 t245]), (26, .bool true)]) (fun s_ w' => (w'.cell? ⟨gb241, 0, none⟩ = some (.int .i64 a2_0) ∧ w'.cell? ⟨gb241, 1, none⟩ = some (.int .i64 a2_1) ∧ w'.cell? ⟨gb241, 2, none⟩ = some (.int .i64 a2_2) ∧ w'.cell? ⟨gb240, 0, none⟩ = some (.int .i64 a1_0) ∧ w'.cell? ⟨gb240, 1, none⟩ = some (.int .i64 a1_1) ∧ w'.cell? ⟨gb240, 2, none⟩ = some (.int .i64 a1_2)) ∧ (w'.heap[gb240]? = some (.cells #[.int .i64 a1_0, .int .i64 a1_1, .int .i64 a1_2] 25 (0, 0))) ∧ (w'.heap[gb241]? = some (.cells #[.int .i64 a2_0, .int .i64 a2_1, .int .i64 a2_2] 25 (0, 0))) ∧ (w'.heap[s_]? = some (.cells #[.int .i64 0, .int .i64 0, .int .i64 0] 25 (0, 0))) ∧ (w.heap.size ≤ s_) ∧ (w.heap.size ≤ s_) ∧ (gb240 ≠ s_) ∧ (s_ ≠ gb240) ∧ (gb241 ≠ s_) ∧ (s_ ≠ gb241) ∧ (Below w.heap.size w w')) ?_ ?_
   rotate_left
   ·intro hCont
    refine two_ (i := 6) (j := 13) (Ni := some 21) (Nj := some 7) (bv_ 16 511) (bv_ 16 8639) rfl rfl rfl rfl (two_of HT_.out (by kernel_rfl)) (by decide) (by decide) (fun K hK => ?_) (fun K hK => ?_)
    ·skip
     refine goes_ Try.func71 (by kernel_rfl) rfl #[.int .i64 a0, .int .i64 a2_2] (by rfl) rfl rfl (by (try simp only [List.map_toArray, List.map_cons, List.map_nil]); first | done | rfl | (simp only [List.length_drop, List.length_take]; rfl)) ?_
     with_reducible refine (spec_l01Power.calls k a0 a2_2 t242 _ A10.out).mono ?_
     rintro e w' ⟨rfl, ⟨nd, rfl⟩⟩
     refine ⟨_, rfl, ?_⟩
     refine hK.out _ _ ⟨cz_ BK241 0, cz_ BK241 1, cz_ BK241 2, cz_ BK240 0, cz_ BK240 1, cz_ BK240 2⟩ (fun hHeld => ?_)
     clear hK K
     refine norm_ (a' := ?_) ?_ ?_
     rotate_left
     ·show Act.put _ (some 21) _ = _
      simp only [Act.put, lstS, lstZ, lstC, i64_w, i32_w]
      rfl
     refine two_ (i := 9) (j := 13) (Ni := some 24) (Nj := some 7) (bv_ 16 1023) (bv_ 16 8703) rfl rfl rfl rfl (two_of HT_.out (by kernel_rfl)) (by decide) (by decide) (fun K hK => ?_) (fun K hK => ?_)
     ·skip
      refine goes_ Try.func70 (by kernel_rfl) rfl #[.int .i64 a0, .int .i64 a2_1, .int .i64 t242, .int .i64 a1_0] (by rfl) rfl rfl (by (try simp only [List.map_toArray, List.map_cons, List.map_nil]); first | done | rfl | (simp only [List.length_drop, List.length_take]; rfl)) ?_
      with_reducible refine (spec_l01Of.calls k a0 a2_1 t242 a1_0 t243 t244 t245 true _ A11.out).mono ?_
      rintro e w19 ⟨rfl, hb⟩
      refine ⟨_, rfl, ?_⟩
      replace BK240 := bb_ BK240 hb
      replace BK241 := bb_ BK241 hb
      replace HB := bt_ HB hb
      (try clear hb)
      (try clear hb2)
      (try clear hk)
      (try clear hi)
      refine hK.out _ _ ⟨cz_ BK241 0, cz_ BK241 1, cz_ BK241 2, cz_ BK240 0, cz_ BK240 1, cz_ BK240 2⟩ (fun hHeld => ?_)
      clear hK K
      refine norm_ (a' := ?_) ?_ ?_
      rotate_left
      ·show Act.put _ (some 24) _ = _
       simp only [Act.put, lstS, lstZ, lstC, i64_w, i32_w]
       rfl
      refine pu_ HT_ 10 (some 14) (bv_ 16 2047) ?_
      refine pu_ HT_ 11 (some 25) (bv_ 16 4095) ?_
      refine pu_ HT_ 12 (some 26) (bv_ 16 8191) ?_
      refine one_ (i := 13) (N := some 7) (bv_ 16 16383) rfl rfl (one_of HT_.out (by kernel_rfl)) (by decide) (fun K hK => ?_)
      refine box_step ?hg (N := 7) ?hd (cs := #[.int .i64 0, .int .i64 0, .int .i64 0]) (t := 25) ?hr ?_; (case hd => rfl); (case hg => rfl); (case hr => first | (go_simp; done) | (go_simp; rfl))
      intro gb247 hg w20 hbox hb
      have BK247 := Aside0.mk (hbox)
      have GW247 := bs_ HB hg
      have GE247 := bs_ HB hg
      have NB240_247 := bm_ BK240 hg
      have NB247_240 := bn_ BK240 hg
      have NB241_247 := bm_ BK241 hg
      have NB247_241 := bn_ BK241 hg
      replace BK240 := bb_ BK240 hb
      replace BK241 := bb_ BK241 hb
      replace HB := bt_ HB hb
      clear hb hbox hg
      refine hK.out _ _ ⟨cz_ BK241 0, cz_ BK241 1, cz_ BK241 2, cz_ BK240 0, cz_ BK240 1, cz_ BK240 2⟩ (fun hHeld => ?_)
      clear hK K
      refine norm_ (a' := ?_) ?_ ?_
      rotate_left
      ·show Act.put _ (some 7) _ = _
       simp only [Act.put, lstS, lstZ, lstC, i64_w, i32_w]
       rfl
      exact norm_ (by simp only [putAll, Act.put, lstS, lstZ, lstC]) (hCont (gb247) _ ⟨hHeld, (bl_ BK240).out, (bl_ BK241).out, (bl_ BK247).out, GW247.out, GE247.out, NB240_247.out, NB247_240.out, NB241_247.out, NB247_241.out, (bw_ HB).out⟩)
     ·skip
      refine box_step ?hg (N := 7) ?hd (cs := #[.int .i64 0, .int .i64 0, .int .i64 0]) (t := 25) ?hr ?_; (case hd => rfl); (case hg => rfl); (case hr => first | (go_simp; done) | (go_simp; rfl))
      intro gb247 hg w19 hbox hb
      have BK247 := Aside0.mk (hbox)
      have GW247 := bs_ HB hg
      have GE247 := bs_ HB hg
      have NB240_247 := bm_ BK240 hg
      have NB247_240 := bn_ BK240 hg
      have NB241_247 := bm_ BK241 hg
      have NB247_241 := bn_ BK241 hg
      replace BK240 := bb_ BK240 hb
      replace BK241 := bb_ BK241 hb
      replace HB := bt_ HB hb
      clear hb hbox hg
      refine hK.out _ _ ⟨cz_ BK241 0, cz_ BK241 1, cz_ BK241 2, cz_ BK240 0, cz_ BK240 1, cz_ BK240 2⟩ (fun hHeld => ?_)
      clear hK K
      refine norm_ (a' := ?_) ?_ ?_
      rotate_left
      ·show Act.put _ (some 7) _ = _
       simp only [Act.put, lstS, lstZ, lstC, i64_w, i32_w]
       rfl
      refine one_ (i := 9) (N := some 24) (bv_ 16 9215) rfl rfl (one_of HT_.out (by kernel_rfl)) (by decide) (fun K hK => ?_)
      refine goes_ Try.func70 (by kernel_rfl) rfl #[.int .i64 a0, .int .i64 a2_1, .int .i64 t242, .int .i64 a1_0] (by rfl) rfl rfl (by (try simp only [List.map_toArray, List.map_cons, List.map_nil]); first | done | rfl | (simp only [List.length_drop, List.length_take]; rfl)) ?_
      with_reducible refine (spec_l01Of.calls k a0 a2_1 t242 a1_0 t243 t244 t245 true _ A11.out).mono ?_
      rintro e w20 ⟨rfl, hb⟩
      refine ⟨_, rfl, ?_⟩
      replace BK240 := bb_ BK240 hb
      replace BK241 := bb_ BK241 hb
      replace BK247 := bb_ BK247 hb
      replace HB := bt_ HB hb
      (try clear hb)
      (try clear hb2)
      (try clear hk)
      (try clear hi)
      refine hK.out _ _ ⟨cz_ BK241 0, cz_ BK241 1, cz_ BK241 2, cz_ BK240 0, cz_ BK240 1, cz_ BK240 2⟩ (fun hHeld => ?_)
      clear hK K
      refine norm_ (a' := ?_) ?_ ?_
      rotate_left
      ·show Act.put _ (some 24) _ = _
       simp only [Act.put, lstS, lstZ, lstC, i64_w, i32_w]
       rfl
      refine pu_ HT_ 10 (some 14) (bv_ 16 10239) ?_
      refine pu_ HT_ 11 (some 25) (bv_ 16 12287) ?_
      refine pu_ HT_ 12 (some 26) (bv_ 16 16383) ?_
      exact norm_ (by simp only [putAll, Act.put, lstS, lstZ, lstC]) (hCont (gb247) _ ⟨hHeld, (bl_ BK240).out, (bl_ BK241).out, (bl_ BK247).out, GW247.out, GE247.out, NB240_247.out, NB247_240.out, NB241_247.out, NB247_241.out, (bw_ HB).out⟩)
    ·skip
     refine box_step ?hg (N := 7) ?hd (cs := #[.int .i64 0, .int .i64 0, .int .i64 0]) (t := 25) ?hr ?_; (case hd => rfl); (case hg => rfl); (case hr => first | (go_simp; done) | (go_simp; rfl))
     intro gb247 hg w19 hbox hb
     have BK247 := Aside0.mk (hbox)
     have GW247 := bs_ HB hg
     have GE247 := bs_ HB hg
     have NB240_247 := bm_ BK240 hg
     have NB247_240 := bn_ BK240 hg
     have NB241_247 := bm_ BK241 hg
     have NB247_241 := bn_ BK241 hg
     replace BK240 := bb_ BK240 hb
     replace BK241 := bb_ BK241 hb
     replace HB := bt_ HB hb
     clear hb hbox hg
     refine hK.out _ _ ⟨cz_ BK241 0, cz_ BK241 1, cz_ BK241 2, cz_ BK240 0, cz_ BK240 1, cz_ BK240 2⟩ (fun hHeld => ?_)
     clear hK K
     refine norm_ (a' := ?_) ?_ ?_
     rotate_left
     ·show Act.put _ (some 7) _ = _
      simp only [Act.put, lstS, lstZ, lstC, i64_w, i32_w]
      rfl
     refine one_ (i := 6) (N := some 21) (bv_ 16 8703) rfl rfl (one_of HT_.out (by kernel_rfl)) (by decide) (fun K hK => ?_)
     refine goes_ Try.func71 (by kernel_rfl) rfl #[.int .i64 a0, .int .i64 a2_2] (by rfl) rfl rfl (by (try simp only [List.map_toArray, List.map_cons, List.map_nil]); first | done | rfl | (simp only [List.length_drop, List.length_take]; rfl)) ?_
     with_reducible refine (spec_l01Power.calls k a0 a2_2 t242 _ A10.out).mono ?_
     rintro e w' ⟨rfl, ⟨nd, rfl⟩⟩
     refine ⟨_, rfl, ?_⟩
     refine hK.out _ _ ⟨cz_ BK241 0, cz_ BK241 1, cz_ BK241 2, cz_ BK240 0, cz_ BK240 1, cz_ BK240 2⟩ (fun hHeld => ?_)
     clear hK K
     refine norm_ (a' := ?_) ?_ ?_
     rotate_left
     ·show Act.put _ (some 21) _ = _
      simp only [Act.put, lstS, lstZ, lstC, i64_w, i32_w]
      rfl
     refine one_ (i := 9) (N := some 24) (bv_ 16 9215) rfl rfl (one_of HT_.out (by kernel_rfl)) (by decide) (fun K hK => ?_)
     refine goes_ Try.func70 (by kernel_rfl) rfl #[.int .i64 a0, .int .i64 a2_1, .int .i64 t242, .int .i64 a1_0] (by rfl) rfl rfl (by (try simp only [List.map_toArray, List.map_cons, List.map_nil]); first | done | rfl | (simp only [List.length_drop, List.length_take]; rfl)) ?_
     with_reducible refine (spec_l01Of.calls k a0 a2_1 t242 a1_0 t243 t244 t245 true _ A11.out).mono ?_
     rintro e w20 ⟨rfl, hb⟩
     refine ⟨_, rfl, ?_⟩
     replace BK240 := bb_ BK240 hb
     replace BK241 := bb_ BK241 hb
     replace BK247 := bb_ BK247 hb
     replace HB := bt_ HB hb
     (try clear hb)
     (try clear hb2)
     (try clear hk)
     (try clear hi)
     refine hK.out _ _ ⟨cz_ BK241 0, cz_ BK241 1, cz_ BK241 2, cz_ BK240 0, cz_ BK240 1, cz_ BK240 2⟩ (fun hHeld => ?_)
     clear hK K
     refine norm_ (a' := ?_) ?_ ?_
     rotate_left
     ·show Act.put _ (some 24) _ = _
      simp only [Act.put, lstS, lstZ, lstC, i64_w, i32_w]
      rfl
     refine pu_ HT_ 10 (some 14) (bv_ 16 10239) ?_
     refine pu_ HT_ 11 (some 25) (bv_ 16 12287) ?_
     refine pu_ HT_ 12 (some 26) (bv_ 16 16383) ?_
     exact norm_ (by simp only [putAll, Act.put, lstS, lstZ, lstC]) (hCont (gb247) _ ⟨hHeld, (bl_ BK240).out, (bl_ BK241).out, (bl_ BK247).out, GW247.out, GE247.out, NB240_247.out, NB247_240.out, NB241_247.out, NB247_241.out, (bw_ HB).out⟩)
   rintro gb247 w21 ⟨hS_, h0_, h1_, h2_, h3_, h4_, h5_, h6_, h7_, h8_, h9_⟩
   have n0_ : Aside0 (w21.heap[gb240]? = some (.cells #[.int .i64 a1_0, .int .i64 a1_1, .int .i64 a1_2] 25 (0, 0))) := ⟨h0_⟩
   have n1_ : Aside0 (w21.heap[gb241]? = some (.cells #[.int .i64 a2_0, .int .i64 a2_1, .int .i64 a2_2] 25 (0, 0))) := ⟨h1_⟩
   have n2_ : Aside0 (w21.heap[gb247]? = some (.cells #[.int .i64 0, .int .i64 0, .int .i64 0] 25 (0, 0))) := ⟨h2_⟩
   have n3_ : Aside0 (w.heap.size ≤ gb247) := ⟨h3_⟩
   have n4_ : Aside0 (w.heap.size ≤ gb247) := ⟨h4_⟩
   have n5_ : Aside0 (gb240 ≠ gb247) := ⟨h5_⟩
   have n6_ : Aside0 (gb247 ≠ gb240) := ⟨h6_⟩
   have n7_ : Aside0 (gb241 ≠ gb247) := ⟨h7_⟩
   have n8_ : Aside0 (gb247 ≠ gb241) := ⟨h8_⟩
   have n9_ : Aside0 (Below w.heap.size w w21) := ⟨h9_⟩
   clear BK240
   clear BK241
   clear HB
   clear h0_ h1_ h2_ h3_ h4_ h5_ h6_ h7_ h8_ h9_
   have BK240 := n0_
   have BK241 := n1_
   have BK247 := n2_
   have GW247 := n3_
   have GE247 := n4_
   have NB240_247 := n5_
   have NB247_240 := n6_
   have NB241_247 := n7_
   have NB247_241 := n8_
   have HB := n9_
   clear n0_ n1_ n2_ n3_ n4_ n5_ n6_ n7_ n8_ n9_
   have hHeld : w21.cell? ⟨gb241, 0, none⟩ = some (.int .i64 a2_0) ∧ w21.cell? ⟨gb241, 1, none⟩ = some (.int .i64 a2_1) ∧ w21.cell? ⟨gb241, 2, none⟩ = some (.int .i64 a2_2) ∧ w21.cell? ⟨gb240, 0, none⟩ = some (.int .i64 a1_0) ∧ w21.cell? ⟨gb240, 1, none⟩ = some (.int .i64 a1_1) ∧ w21.cell? ⟨gb240, 2, none⟩ = some (.int .i64 a1_2) := hS_
   refine norm_ (a' := ?_) ?_ ?_
   rotate_left
   ·simp only [putAll, Act.put, lstS, lstZ, lstC]
    rfl
   refine one_ (i := 14) (N := none) (bv_ 16 32767) rfl rfl (one_of HT_.out (by kernel_rfl)) (by decide) (fun K hK => ?_)
   have hs22 : w21.cell? ⟨gb247, 0, none⟩ = some (.int .i64 0) := (blk_cell BK247.out 0).trans rfl
   have hfs22 := blk_frozen BK247.out 0
   have hns22_0 := NB240_247.out
   have hns22_1 := NB241_247.out
   have hms22_0 := NB247_240.out
   have hms22_1 := NB247_241.out
   have hs23 : w21.cell? ⟨gb247, 1, none⟩ = some (.int .i64 0) := (blk_cell BK247.out 1).trans rfl
   have hfs23 := blk_frozen BK247.out 1
   have hns23_0 := NB240_247.out
   have hns23_1 := NB241_247.out
   have hms23_0 := NB247_240.out
   have hms23_1 := NB247_241.out
   have hs24 : w21.cell? ⟨gb247, 2, none⟩ = some (.int .i64 0) := (blk_cell BK247.out 2).trans rfl
   have hfs24 := blk_frozen BK247.out 2
   have hns24_0 := NB240_247.out
   have hns24_1 := NB241_247.out
   have hms24_0 := NB247_240.out
   have hms24_1 := NB247_241.out
   refine skip_ (w1 := ?_) (by rfl) rfl ?_ ?_
   rotate_left
   ·go_simp
    rfl
   refine hK.out _ _ ⟨((cell_far (p := ⟨gb247, _, none⟩) NB241_247.out _).trans (((cell_far (p := ⟨gb247, _, none⟩) NB241_247.out _).trans (((cell_far (p := ⟨gb247, _, none⟩) NB241_247.out _).trans (hHeld.1)))))), ((cell_far (p := ⟨gb247, _, none⟩) NB241_247.out _).trans (((cell_far (p := ⟨gb247, _, none⟩) NB241_247.out _).trans (((cell_far (p := ⟨gb247, _, none⟩) NB241_247.out _).trans (hHeld.2.1)))))), ((cell_far (p := ⟨gb247, _, none⟩) NB241_247.out _).trans (((cell_far (p := ⟨gb247, _, none⟩) NB241_247.out _).trans (((cell_far (p := ⟨gb247, _, none⟩) NB241_247.out _).trans (hHeld.2.2.1)))))), ((cell_far (p := ⟨gb247, _, none⟩) NB240_247.out _).trans (((cell_far (p := ⟨gb247, _, none⟩) NB240_247.out _).trans (((cell_far (p := ⟨gb247, _, none⟩) NB240_247.out _).trans (hHeld.2.2.2.1)))))), ((cell_far (p := ⟨gb247, _, none⟩) NB240_247.out _).trans (((cell_far (p := ⟨gb247, _, none⟩) NB240_247.out _).trans (((cell_far (p := ⟨gb247, _, none⟩) NB240_247.out _).trans (hHeld.2.2.2.2.1)))))), ((cell_far (p := ⟨gb247, _, none⟩) NB240_247.out _).trans (((cell_far (p := ⟨gb247, _, none⟩) NB240_247.out _).trans (((cell_far (p := ⟨gb247, _, none⟩) NB240_247.out _).trans (hHeld.2.2.2.2.2))))))⟩ (fun hHeld => ?_)
   clear hK K
   refine pu_ HT_ 15 (some 8) (bv_ 16 65535) ?_
   refine done_ (done_of HT_.out (by kernel_rfl)) ?_
   have hnb25 := NB247_240.out
   have hnc25 := NB240_247.out
   have hnb26 := NB247_241.out
   have hnc26 := NB241_247.out
   obtain ⟨hcz27_0, hcz27_1, hcz27_2, hfz27_0, hfz27_1, hfz27_2⟩ := ch3_ BK247
   obtain ⟨hcz28_0, hcz28_1, hcz28_2, hfz28_0, hfz28_1, hfz28_2⟩ := ch3_ BK240
   try go_wp2
   go_ret
   exact ⟨es_, (bw_ HB).out⟩
  ·replace c12 := Bool.eq_false_iff.mpr c12
   subst c12
   have H1 : (some false) = some r := by rw [if_neg (show ¬ (false = true) by decide)] at H; exact H
   clear H
   have H := H1
   clear H1
   obtain rfl := si_ H
   go_enter Try.func41, Try.ntmps41
   try go_wp2_with (first | (refine bx_ 4 #[.int .i64 a1_0, .int .i64 a1_1, .int .i64 a1_2] 25 ?_; intro gb240 hg w29 hbox hb; have BK240 := Aside0.mk (hbox); have GW240 := bs_ HB hg; have GE240 := bs_ HB hg; replace HB := bt_ HB hb; clear hb hbox hg) | (refine bx_ 5 #[.int .i64 a2_0, .int .i64 a2_1, .int .i64 a2_2] 25 ?_; intro gb241 hg w30 hbox hb; have BK241 := Aside0.mk (hbox); have GW241 := bs_ HB hg; have GE241 := bs_ HB hg; have NB240_241 := bm_ BK240 hg; have NB241_240 := bn_ BK240 hg; replace BK240 := bb_ BK240 hb; replace HB := bt_ HB hb; clear hb hbox hg; have hnb31 := NB240_241.out; have hnc31 := NB241_240.out; obtain ⟨hcz32_0, hcz32_1, hcz32_2, hfz32_0, hfz32_1, hfz32_2⟩ := ch3_ BK240; obtain ⟨hcz33_0, hcz33_1, hcz33_2, hfz33_0, hfz33_1, hfz33_2⟩ := ch3_ BK241))
   replace BK240 := Aside0.mk (blk_drew BK240.out)
   replace BK241 := Aside0.mk (blk_drew BK241.out)
   replace HB := Aside0.mk (below_drew1 HB.out)
   refine start_ (n := 16) (S := fun w' => w'.cell? ⟨gb241, 0, none⟩ = some (.int .i64 a2_0) ∧ w'.cell? ⟨gb241, 1, none⟩ = some (.int .i64 a2_1) ∧ w'.cell? ⟨gb241, 2, none⟩ = some (.int .i64 a2_2) ∧ w'.cell? ⟨gb240, 0, none⟩ = some (.int .i64 a1_0) ∧ w'.cell? ⟨gb240, 1, none⟩ = some (.int .i64 a1_1) ∧ w'.cell? ⟨gb240, 2, none⟩ = some (.int .i64 a1_2)) (ds := []) (bv_ 16 0) (by kernel_rfl) rfl rfl ⟨cz_ BK241 0, cz_ BK241 1, cz_ BK241 2, cz_ BK240 0, cz_ BK240 1, cz_ BK240 2⟩ (fun hHeld => ?_); refine with_tabW spec_l01Holds.tab3 spec_l01Holds.bits3 (fun HT_ HW_ => ?_)
   generalize w30.drew = w34 at BK240 BK241 HB hHeld ⊢
   refine pu_ HT_ 0 (some 15) (bv_ 16 1) ?_
   refine pu_ HT_ 1 (some 16) (bv_ 16 3) ?_
   refine pu_ HT_ 3 (some 18) (bv_ 16 11) ?_
   refine pu_ HT_ 4 (some 19) (bv_ 16 27) ?_
   refine pu_ HT_ 7 (some 22) (bv_ 16 155) ?_
   refine ta_ HT_ HW_ 2 (some 17) (bv_ 16 159) hHeld ?_ (hy := by rintro w' ⟨s0, s1, s2, s3, s4, s5⟩; go_simp; with_reducible rfl)
   refine ta_ HT_ HW_ 5 (some 20) (bv_ 16 191) hHeld ?_ (hy := by rintro w' ⟨s0, s1, s2, s3, s4, s5⟩; go_simp; with_reducible rfl)
   refine ta_ HT_ HW_ 8 (some 23) (bv_ 16 447) hHeld ?_ (hy := by rintro w' ⟨s0, s1, s2, s3, s4, s5⟩; go_simp; with_reducible rfl)
   refine join_ (σ := Nat) 2 (bv_ 16 16383) (fun s_ => [(21, .int .i64 t242), (24, .tuple #[.agg #[.int .i64 t243, .int .i64 t244, .int .i64 t245], .bool false]), (7, .pointer (some ⟨s_, 0, none⟩)), (14, .tuple #[.agg #[.int .i64 t243, .int .i64 t244, .int .i64 t245], .bool false]), (25, .agg #[.int .i64 t243, .int .i64 t244, .int .i64 t245]), (26, .bool false)]) (fun s_ w' => (w'.cell? ⟨gb241, 0, none⟩ = some (.int .i64 a2_0) ∧ w'.cell? ⟨gb241, 1, none⟩ = some (.int .i64 a2_1) ∧ w'.cell? ⟨gb241, 2, none⟩ = some (.int .i64 a2_2) ∧ w'.cell? ⟨gb240, 0, none⟩ = some (.int .i64 a1_0) ∧ w'.cell? ⟨gb240, 1, none⟩ = some (.int .i64 a1_1) ∧ w'.cell? ⟨gb240, 2, none⟩ = some (.int .i64 a1_2)) ∧ (w'.heap[gb240]? = some (.cells #[.int .i64 a1_0, .int .i64 a1_1, .int .i64 a1_2] 25 (0, 0))) ∧ (w'.heap[gb241]? = some (.cells #[.int .i64 a2_0, .int .i64 a2_1, .int .i64 a2_2] 25 (0, 0))) ∧ (w'.heap[s_]? = some (.cells #[.int .i64 0, .int .i64 0, .int .i64 0] 25 (0, 0))) ∧ (w.heap.size ≤ s_) ∧ (w.heap.size ≤ s_) ∧ (gb240 ≠ s_) ∧ (s_ ≠ gb240) ∧ (gb241 ≠ s_) ∧ (s_ ≠ gb241) ∧ (Below w.heap.size w w')) ?_ ?_
   rotate_left
   ·intro hCont
    refine two_ (i := 6) (j := 13) (Ni := some 21) (Nj := some 7) (bv_ 16 511) (bv_ 16 8639) rfl rfl rfl rfl (two_of HT_.out (by kernel_rfl)) (by decide) (by decide) (fun K hK => ?_) (fun K hK => ?_)
    ·skip
     refine goes_ Try.func71 (by kernel_rfl) rfl #[.int .i64 a0, .int .i64 a2_2] (by rfl) rfl rfl (by (try simp only [List.map_toArray, List.map_cons, List.map_nil]); first | done | rfl | (simp only [List.length_drop, List.length_take]; rfl)) ?_
     with_reducible refine (spec_l01Power.calls k a0 a2_2 t242 _ A10.out).mono ?_
     rintro e w' ⟨rfl, ⟨nd, rfl⟩⟩
     refine ⟨_, rfl, ?_⟩
     refine hK.out _ _ ⟨cz_ BK241 0, cz_ BK241 1, cz_ BK241 2, cz_ BK240 0, cz_ BK240 1, cz_ BK240 2⟩ (fun hHeld => ?_)
     clear hK K
     refine norm_ (a' := ?_) ?_ ?_
     rotate_left
     ·show Act.put _ (some 21) _ = _
      simp only [Act.put, lstS, lstZ, lstC, i64_w, i32_w]
      rfl
     refine two_ (i := 9) (j := 13) (Ni := some 24) (Nj := some 7) (bv_ 16 1023) (bv_ 16 8703) rfl rfl rfl rfl (two_of HT_.out (by kernel_rfl)) (by decide) (by decide) (fun K hK => ?_) (fun K hK => ?_)
     ·skip
      refine goes_ Try.func70 (by kernel_rfl) rfl #[.int .i64 a0, .int .i64 a2_1, .int .i64 t242, .int .i64 a1_0] (by rfl) rfl rfl (by (try simp only [List.map_toArray, List.map_cons, List.map_nil]); first | done | rfl | (simp only [List.length_drop, List.length_take]; rfl)) ?_
      with_reducible refine (spec_l01Of.calls k a0 a2_1 t242 a1_0 t243 t244 t245 false _ A11.out).mono ?_
      rintro e w35 ⟨rfl, hb⟩
      refine ⟨_, rfl, ?_⟩
      replace BK240 := bb_ BK240 hb
      replace BK241 := bb_ BK241 hb
      replace HB := bt_ HB hb
      (try clear hb)
      (try clear hb2)
      (try clear hk)
      (try clear hi)
      refine hK.out _ _ ⟨cz_ BK241 0, cz_ BK241 1, cz_ BK241 2, cz_ BK240 0, cz_ BK240 1, cz_ BK240 2⟩ (fun hHeld => ?_)
      clear hK K
      refine norm_ (a' := ?_) ?_ ?_
      rotate_left
      ·show Act.put _ (some 24) _ = _
       simp only [Act.put, lstS, lstZ, lstC, i64_w, i32_w]
       rfl
      refine pu_ HT_ 10 (some 14) (bv_ 16 2047) ?_
      refine pu_ HT_ 11 (some 25) (bv_ 16 4095) ?_
      refine pu_ HT_ 12 (some 26) (bv_ 16 8191) ?_
      refine one_ (i := 13) (N := some 7) (bv_ 16 16383) rfl rfl (one_of HT_.out (by kernel_rfl)) (by decide) (fun K hK => ?_)
      refine box_step ?hg (N := 7) ?hd (cs := #[.int .i64 0, .int .i64 0, .int .i64 0]) (t := 25) ?hr ?_; (case hd => rfl); (case hg => rfl); (case hr => first | (go_simp; done) | (go_simp; rfl))
      intro gb247 hg w36 hbox hb
      have BK247 := Aside0.mk (hbox)
      have GW247 := bs_ HB hg
      have GE247 := bs_ HB hg
      have NB240_247 := bm_ BK240 hg
      have NB247_240 := bn_ BK240 hg
      have NB241_247 := bm_ BK241 hg
      have NB247_241 := bn_ BK241 hg
      replace BK240 := bb_ BK240 hb
      replace BK241 := bb_ BK241 hb
      replace HB := bt_ HB hb
      clear hb hbox hg
      refine hK.out _ _ ⟨cz_ BK241 0, cz_ BK241 1, cz_ BK241 2, cz_ BK240 0, cz_ BK240 1, cz_ BK240 2⟩ (fun hHeld => ?_)
      clear hK K
      refine norm_ (a' := ?_) ?_ ?_
      rotate_left
      ·show Act.put _ (some 7) _ = _
       simp only [Act.put, lstS, lstZ, lstC, i64_w, i32_w]
       rfl
      exact norm_ (by simp only [putAll, Act.put, lstS, lstZ, lstC]) (hCont (gb247) _ ⟨hHeld, (bl_ BK240).out, (bl_ BK241).out, (bl_ BK247).out, GW247.out, GE247.out, NB240_247.out, NB247_240.out, NB241_247.out, NB247_241.out, (bw_ HB).out⟩)
     ·skip
      refine box_step ?hg (N := 7) ?hd (cs := #[.int .i64 0, .int .i64 0, .int .i64 0]) (t := 25) ?hr ?_; (case hd => rfl); (case hg => rfl); (case hr => first | (go_simp; done) | (go_simp; rfl))
      intro gb247 hg w35 hbox hb
      have BK247 := Aside0.mk (hbox)
      have GW247 := bs_ HB hg
      have GE247 := bs_ HB hg
      have NB240_247 := bm_ BK240 hg
      have NB247_240 := bn_ BK240 hg
      have NB241_247 := bm_ BK241 hg
      have NB247_241 := bn_ BK241 hg
      replace BK240 := bb_ BK240 hb
      replace BK241 := bb_ BK241 hb
      replace HB := bt_ HB hb
      clear hb hbox hg
      refine hK.out _ _ ⟨cz_ BK241 0, cz_ BK241 1, cz_ BK241 2, cz_ BK240 0, cz_ BK240 1, cz_ BK240 2⟩ (fun hHeld => ?_)
      clear hK K
      refine norm_ (a' := ?_) ?_ ?_
      rotate_left
      ·show Act.put _ (some 7) _ = _
       simp only [Act.put, lstS, lstZ, lstC, i64_w, i32_w]
       rfl
      refine one_ (i := 9) (N := some 24) (bv_ 16 9215) rfl rfl (one_of HT_.out (by kernel_rfl)) (by decide) (fun K hK => ?_)
      refine goes_ Try.func70 (by kernel_rfl) rfl #[.int .i64 a0, .int .i64 a2_1, .int .i64 t242, .int .i64 a1_0] (by rfl) rfl rfl (by (try simp only [List.map_toArray, List.map_cons, List.map_nil]); first | done | rfl | (simp only [List.length_drop, List.length_take]; rfl)) ?_
      with_reducible refine (spec_l01Of.calls k a0 a2_1 t242 a1_0 t243 t244 t245 false _ A11.out).mono ?_
      rintro e w36 ⟨rfl, hb⟩
      refine ⟨_, rfl, ?_⟩
      replace BK240 := bb_ BK240 hb
      replace BK241 := bb_ BK241 hb
      replace BK247 := bb_ BK247 hb
      replace HB := bt_ HB hb
      (try clear hb)
      (try clear hb2)
      (try clear hk)
      (try clear hi)
      refine hK.out _ _ ⟨cz_ BK241 0, cz_ BK241 1, cz_ BK241 2, cz_ BK240 0, cz_ BK240 1, cz_ BK240 2⟩ (fun hHeld => ?_)
      clear hK K
      refine norm_ (a' := ?_) ?_ ?_
      rotate_left
      ·show Act.put _ (some 24) _ = _
       simp only [Act.put, lstS, lstZ, lstC, i64_w, i32_w]
       rfl
      refine pu_ HT_ 10 (some 14) (bv_ 16 10239) ?_
      refine pu_ HT_ 11 (some 25) (bv_ 16 12287) ?_
      refine pu_ HT_ 12 (some 26) (bv_ 16 16383) ?_
      exact norm_ (by simp only [putAll, Act.put, lstS, lstZ, lstC]) (hCont (gb247) _ ⟨hHeld, (bl_ BK240).out, (bl_ BK241).out, (bl_ BK247).out, GW247.out, GE247.out, NB240_247.out, NB247_240.out, NB241_247.out, NB247_241.out, (bw_ HB).out⟩)
    ·skip
     refine box_step ?hg (N := 7) ?hd (cs := #[.int .i64 0, .int .i64 0, .int .i64 0]) (t := 25) ?hr ?_; (case hd => rfl); (case hg => rfl); (case hr => first | (go_simp; done) | (go_simp; rfl))
     intro gb247 hg w35 hbox hb
     have BK247 := Aside0.mk (hbox)
     have GW247 := bs_ HB hg
     have GE247 := bs_ HB hg
     have NB240_247 := bm_ BK240 hg
     have NB247_240 := bn_ BK240 hg
     have NB241_247 := bm_ BK241 hg
     have NB247_241 := bn_ BK241 hg
     replace BK240 := bb_ BK240 hb
     replace BK241 := bb_ BK241 hb
     replace HB := bt_ HB hb
     clear hb hbox hg
     refine hK.out _ _ ⟨cz_ BK241 0, cz_ BK241 1, cz_ BK241 2, cz_ BK240 0, cz_ BK240 1, cz_ BK240 2⟩ (fun hHeld => ?_)
     clear hK K
     refine norm_ (a' := ?_) ?_ ?_
     rotate_left
     ·show Act.put _ (some 7) _ = _
      simp only [Act.put, lstS, lstZ, lstC, i64_w, i32_w]
      rfl
     refine one_ (i := 6) (N := some 21) (bv_ 16 8703) rfl rfl (one_of HT_.out (by kernel_rfl)) (by decide) (fun K hK => ?_)
     refine goes_ Try.func71 (by kernel_rfl) rfl #[.int .i64 a0, .int .i64 a2_2] (by rfl) rfl rfl (by (try simp only [List.map_toArray, List.map_cons, List.map_nil]); first | done | rfl | (simp only [List.length_drop, List.length_take]; rfl)) ?_
     with_reducible refine (spec_l01Power.calls k a0 a2_2 t242 _ A10.out).mono ?_
     rintro e w' ⟨rfl, ⟨nd, rfl⟩⟩
     refine ⟨_, rfl, ?_⟩
     refine hK.out _ _ ⟨cz_ BK241 0, cz_ BK241 1, cz_ BK241 2, cz_ BK240 0, cz_ BK240 1, cz_ BK240 2⟩ (fun hHeld => ?_)
     clear hK K
     refine norm_ (a' := ?_) ?_ ?_
     rotate_left
     ·show Act.put _ (some 21) _ = _
      simp only [Act.put, lstS, lstZ, lstC, i64_w, i32_w]
      rfl
     refine one_ (i := 9) (N := some 24) (bv_ 16 9215) rfl rfl (one_of HT_.out (by kernel_rfl)) (by decide) (fun K hK => ?_)
     refine goes_ Try.func70 (by kernel_rfl) rfl #[.int .i64 a0, .int .i64 a2_1, .int .i64 t242, .int .i64 a1_0] (by rfl) rfl rfl (by (try simp only [List.map_toArray, List.map_cons, List.map_nil]); first | done | rfl | (simp only [List.length_drop, List.length_take]; rfl)) ?_
     with_reducible refine (spec_l01Of.calls k a0 a2_1 t242 a1_0 t243 t244 t245 false _ A11.out).mono ?_
     rintro e w36 ⟨rfl, hb⟩
     refine ⟨_, rfl, ?_⟩
     replace BK240 := bb_ BK240 hb
     replace BK241 := bb_ BK241 hb
     replace BK247 := bb_ BK247 hb
     replace HB := bt_ HB hb
     (try clear hb)
     (try clear hb2)
     (try clear hk)
     (try clear hi)
     refine hK.out _ _ ⟨cz_ BK241 0, cz_ BK241 1, cz_ BK241 2, cz_ BK240 0, cz_ BK240 1, cz_ BK240 2⟩ (fun hHeld => ?_)
     clear hK K
     refine norm_ (a' := ?_) ?_ ?_
     rotate_left
     ·show Act.put _ (some 24) _ = _
      simp only [Act.put, lstS, lstZ, lstC, i64_w, i32_w]
      rfl
     refine pu_ HT_ 10 (some 14) (bv_ 16 10239) ?_
     refine pu_ HT_ 11 (some 25) (bv_ 16 12287) ?_
     refine pu_ HT_ 12 (some 26) (bv_ 16 16383) ?_
     exact norm_ (by simp only [putAll, Act.put, lstS, lstZ, lstC]) (hCont (gb247) _ ⟨hHeld, (bl_ BK240).out, (bl_ BK241).out, (bl_ BK247).out, GW247.out, GE247.out, NB240_247.out, NB247_240.out, NB241_247.out, NB247_241.out, (bw_ HB).out⟩)
   rintro gb247 w37 ⟨hS_, h0_, h1_, h2_, h3_, h4_, h5_, h6_, h7_, h8_, h9_⟩
   have n0_ : Aside0 (w37.heap[gb240]? = some (.cells #[.int .i64 a1_0, .int .i64 a1_1, .int .i64 a1_2] 25 (0, 0))) := ⟨h0_⟩
   have n1_ : Aside0 (w37.heap[gb241]? = some (.cells #[.int .i64 a2_0, .int .i64 a2_1, .int .i64 a2_2] 25 (0, 0))) := ⟨h1_⟩
   have n2_ : Aside0 (w37.heap[gb247]? = some (.cells #[.int .i64 0, .int .i64 0, .int .i64 0] 25 (0, 0))) := ⟨h2_⟩
   have n3_ : Aside0 (w.heap.size ≤ gb247) := ⟨h3_⟩
   have n4_ : Aside0 (w.heap.size ≤ gb247) := ⟨h4_⟩
   have n5_ : Aside0 (gb240 ≠ gb247) := ⟨h5_⟩
   have n6_ : Aside0 (gb247 ≠ gb240) := ⟨h6_⟩
   have n7_ : Aside0 (gb241 ≠ gb247) := ⟨h7_⟩
   have n8_ : Aside0 (gb247 ≠ gb241) := ⟨h8_⟩
   have n9_ : Aside0 (Below w.heap.size w w37) := ⟨h9_⟩
   clear BK240
   clear BK241
   clear HB
   clear h0_ h1_ h2_ h3_ h4_ h5_ h6_ h7_ h8_ h9_
   have BK240 := n0_
   have BK241 := n1_
   have BK247 := n2_
   have GW247 := n3_
   have GE247 := n4_
   have NB240_247 := n5_
   have NB247_240 := n6_
   have NB241_247 := n7_
   have NB247_241 := n8_
   have HB := n9_
   clear n0_ n1_ n2_ n3_ n4_ n5_ n6_ n7_ n8_ n9_
   have hHeld : w37.cell? ⟨gb241, 0, none⟩ = some (.int .i64 a2_0) ∧ w37.cell? ⟨gb241, 1, none⟩ = some (.int .i64 a2_1) ∧ w37.cell? ⟨gb241, 2, none⟩ = some (.int .i64 a2_2) ∧ w37.cell? ⟨gb240, 0, none⟩ = some (.int .i64 a1_0) ∧ w37.cell? ⟨gb240, 1, none⟩ = some (.int .i64 a1_1) ∧ w37.cell? ⟨gb240, 2, none⟩ = some (.int .i64 a1_2) := hS_
   refine norm_ (a' := ?_) ?_ ?_
   rotate_left
   ·simp only [putAll, Act.put, lstS, lstZ, lstC]
    rfl
   refine one_ (i := 14) (N := none) (bv_ 16 32767) rfl rfl (one_of HT_.out (by kernel_rfl)) (by decide) (fun K hK => ?_)
   have hs38 : w37.cell? ⟨gb247, 0, none⟩ = some (.int .i64 0) := (blk_cell BK247.out 0).trans rfl
   have hfs38 := blk_frozen BK247.out 0
   have hns38_0 := NB240_247.out
   have hns38_1 := NB241_247.out
   have hms38_0 := NB247_240.out
   have hms38_1 := NB247_241.out
   have hs39 : w37.cell? ⟨gb247, 1, none⟩ = some (.int .i64 0) := (blk_cell BK247.out 1).trans rfl
   have hfs39 := blk_frozen BK247.out 1
   have hns39_0 := NB240_247.out
   have hns39_1 := NB241_247.out
   have hms39_0 := NB247_240.out
   have hms39_1 := NB247_241.out
   have hs40 : w37.cell? ⟨gb247, 2, none⟩ = some (.int .i64 0) := (blk_cell BK247.out 2).trans rfl
   have hfs40 := blk_frozen BK247.out 2
   have hns40_0 := NB240_247.out
   have hns40_1 := NB241_247.out
   have hms40_0 := NB247_240.out
   have hms40_1 := NB247_241.out
   refine skip_ (w1 := ?_) (by rfl) rfl ?_ ?_
   rotate_left
   ·go_simp
    rfl
   refine hK.out _ _ ⟨((cell_far (p := ⟨gb247, _, none⟩) NB241_247.out _).trans (((cell_far (p := ⟨gb247, _, none⟩) NB241_247.out _).trans (((cell_far (p := ⟨gb247, _, none⟩) NB241_247.out _).trans (hHeld.1)))))), ((cell_far (p := ⟨gb247, _, none⟩) NB241_247.out _).trans (((cell_far (p := ⟨gb247, _, none⟩) NB241_247.out _).trans (((cell_far (p := ⟨gb247, _, none⟩) NB241_247.out _).trans (hHeld.2.1)))))), ((cell_far (p := ⟨gb247, _, none⟩) NB241_247.out _).trans (((cell_far (p := ⟨gb247, _, none⟩) NB241_247.out _).trans (((cell_far (p := ⟨gb247, _, none⟩) NB241_247.out _).trans (hHeld.2.2.1)))))), ((cell_far (p := ⟨gb247, _, none⟩) NB240_247.out _).trans (((cell_far (p := ⟨gb247, _, none⟩) NB240_247.out _).trans (((cell_far (p := ⟨gb247, _, none⟩) NB240_247.out _).trans (hHeld.2.2.2.1)))))), ((cell_far (p := ⟨gb247, _, none⟩) NB240_247.out _).trans (((cell_far (p := ⟨gb247, _, none⟩) NB240_247.out _).trans (((cell_far (p := ⟨gb247, _, none⟩) NB240_247.out _).trans (hHeld.2.2.2.2.1)))))), ((cell_far (p := ⟨gb247, _, none⟩) NB240_247.out _).trans (((cell_far (p := ⟨gb247, _, none⟩) NB240_247.out _).trans (((cell_far (p := ⟨gb247, _, none⟩) NB240_247.out _).trans (hHeld.2.2.2.2.2))))))⟩ (fun hHeld => ?_)
   clear hK K
   refine pu_ HT_ 15 (some 8) (bv_ 16 65535) ?_
   refine done_ (done_of HT_.out (by kernel_rfl)) ?_
   try go_wp2
   go_ret
   exact ⟨es_, (bw_ HB).out⟩
end Go.Proofs.Ytbldceikdajdlaa.QD
