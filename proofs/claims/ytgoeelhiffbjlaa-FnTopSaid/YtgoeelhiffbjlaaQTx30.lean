import Derived.Test.YtgoeelhiffbjlaaQTx10
import Derived.Test.YtgoeelhiffbjlaaQTx21
import Derived.Test.YtgoeelhiffbjlaaQTx28
namespace Go.Proofs.Ytgoeelhiffbjlaa.QT
set_option maxHeartbeats 8000000
set_option maxRecDepth 100000
open Go.RowKit Go.Proofs.YtgoeelhiffbjlaaW.PrintWords Go.Proofs.YtgoeelhiffbjlaaW.PrintLast Go.Proofs.YtgoeelhiffbjlaaW.PrintMore
attribute [local go_sem] isSome_setCell max2_int min2_int max_two min_two max_three min_three max_four min_four
set_option linter.unusedVariables false
set_option linter.unusedSimpArgs false

/-! ### spec_l01Of: function 170 -/
def spec_l01Of.f (k : Nat) (a0 : Int) (a1 : Int) (a2 : Int) (a3 : Int) : Option (Int × Int × Int × Bool) := (spec_l01In.f a3 (-6) 6).bind fun t182 => (if t182 = true then (if a1 = 0 then (some (a3, 0, 0, true)) else ((spec_l01Val.f k a0 a1).bind fun t184 => ((spec_l01Val.f k a0 a2).bind fun t185 => (if a3 ≤ (wrap64 (t184 - t185)) then (some (a3, 0, 0, true)) else (if (mx (wrap64 (t185 - t184)) 0) > 6 then (some (0, 0, 0, false)) else ((spec_l01Power.f k a0 (wrap64 (a3 + (mx (wrap64 (t185 - t184)) 0)))).bind fun t186 => ((spec_l01Power.f k a0 t184).bind fun t187 => (if t187 = 0 then (none) else ((spec_l01Power.f k a0 t185).bind fun t188 => (if t188 = 0 then (none) else ((spec_l01InvMod.f k (wrap64 (Int.tdiv a2 t188)) t186).bind fun t189 => ((spec_l01MulMod.f (wrap64 (Int.tdiv a1 t187)) t189 t186).bind fun t190 => ((spec_l01Power.f k a0 (mx (wrap64 (t184 - t185)) 0)).bind fun t191 => ((spec_l01MulMod.f t190 t191 t186).bind fun t192 => (some (a3, t192, mx (wrap64 (t185 - t184)) 0, true)))))))))))))))) else (some (0, 0, 0, false)))
theorem spec_l01Of.calls (k : Nat) (a0 : Int) (a1 : Int) (a2 : Int) (a3 : Int) (r1 : Int) (r2 : Int) (r3 : Int) (r4 : Bool) (w : World) (h : spec_l01Of.f k a0 a1 a2 a3 = some (r1, r2, r3, r4)) :
  Calls Try.prog 170 #[.int .i64 a0, .int .i64 a1, .int .i64 a2, .int .i64 a3] w fun e w' => e = .returned (.tuple #[.agg #[.int .i64 r1, .int .i64 r2, .int .i64 r3], .bool r4]) ∧ Below w.heap.size w w' := by
 have hu25 := Try.underlying25
 have HB := Aside0.mk (Below.refl w.heap.size w)
 have H : ((spec_l01In.f a3 (-6) 6).bind fun t182 => (if t182 = true then (if a1 = 0 then (some (a3, 0, 0, true)) else ((spec_l01Val.f k a0 a1).bind fun t184 => ((spec_l01Val.f k a0 a2).bind fun t185 => (if a3 ≤ (wrap64 (t184 - t185)) then (some (a3, 0, 0, true)) else (if (mx (wrap64 (t185 - t184)) 0) > 6 then (some (0, 0, 0, false)) else ((spec_l01Power.f k a0 (wrap64 (a3 + (mx (wrap64 (t185 - t184)) 0)))).bind fun t186 => ((spec_l01Power.f k a0 t184).bind fun t187 => (if t187 = 0 then (none) else ((spec_l01Power.f k a0 t185).bind fun t188 => (if t188 = 0 then (none) else ((spec_l01InvMod.f k (wrap64 (Int.tdiv a2 t188)) t186).bind fun t189 => ((spec_l01MulMod.f (wrap64 (Int.tdiv a1 t187)) t189 t186).bind fun t190 => ((spec_l01Power.f k a0 (mx (wrap64 (t184 - t185)) 0)).bind fun t191 => ((spec_l01MulMod.f t190 t191 t186).bind fun t192 => (some (a3, t192, mx (wrap64 (t185 - t184)) 0, true)))))))))))))))) else (some (0, 0, 0, false)))) = some (r1, r2, r3, r4) := h
 clear h
 replace H := ob_ H
 obtain ⟨t182, A50, H⟩ := H
 have A5 := Aside0.mk A50
 clear A50
 by_cases c6 : t182 = true
 ·subst c6
  have H1 : (if a1 = 0 then (some (a3, 0, 0, true)) else ((spec_l01Val.f k a0 a1).bind fun t184 => ((spec_l01Val.f k a0 a2).bind fun t185 => (if a3 ≤ (wrap64 (t184 - t185)) then (some (a3, 0, 0, true)) else (if (mx (wrap64 (t185 - t184)) 0) > 6 then (some (0, 0, 0, false)) else ((spec_l01Power.f k a0 (wrap64 (a3 + (mx (wrap64 (t185 - t184)) 0)))).bind fun t186 => ((spec_l01Power.f k a0 t184).bind fun t187 => (if t187 = 0 then (none) else ((spec_l01Power.f k a0 t185).bind fun t188 => (if t188 = 0 then (none) else ((spec_l01InvMod.f k (wrap64 (Int.tdiv a2 t188)) t186).bind fun t189 => ((spec_l01MulMod.f (wrap64 (Int.tdiv a1 t187)) t189 t186).bind fun t190 => ((spec_l01Power.f k a0 (mx (wrap64 (t184 - t185)) 0)).bind fun t191 => ((spec_l01MulMod.f t190 t191 t186).bind fun t192 => (some (a3, t192, mx (wrap64 (t185 - t184)) 0, true)))))))))))))))) = some (r1, r2, r3, r4) := by rw [if_pos rfl] at H; exact H
  clear H
  have H := H1
  clear H1
  by_cases c7 : a1 = 0
  ·rw [if_pos c7] at H
   have c7b0 : (a1 == 0) = true := beq_iff_eq.mpr c7
   have c7b1 : (a1 != 0) = false := bne_eq_false_iff_eq.mpr c7
   clear c7
   simp only [Option.some.injEq, Prod.mk.injEq] at H
   obtain ⟨rfl, rfl, rfl, rfl⟩ := H
   go_enter Try.func170, Try.ntmps170
   go_wp2_with (first | ((refine gd_ 8 ?_); refine bx_ 8 #[.int .i64 0, .int .i64 0, .int .i64 0] 25 ?_; intro gb181 hg w8 BK181 hb; have GW181 := bs_ HB hg; have GE181 := bs_ HB hg; replace HB := bt_ HB hb; clear hb hg) | ((refine gc_ 109 ?_); refine ge_ 15 Try.func109 #[.int .i64 a3, .int .i64 (-6), .int .i64 6] ?_; (with_reducible refine (spec_l01In.calls a3 (-6) 6 true _ A5.out).mono ?_); rintro e w' ⟨rfl, ⟨nd, rfl⟩⟩; refine ⟨_, rfl, ?_⟩; (try (rw [drewN_self w8]; generalize hq_ : World.drewN w8 _ = w8; have n0_ := bq_ BK181 hq_; have n1_ := hq_' HB hq_; clear BK181 HB hq_; have BK181 := n0_; have HB := n1_; clear n0_ n1_))) | ((refine gd_ 10 ?_); refine bx_ 10 #[.int .i64 0, .int .i64 0, .int .i64 0] 25 ?_; intro gb183 hg w9 BK183 hb; have GW183 := bs_ HB hg; have GE183 := bs_ HB hg; have NB181_183 := bm_ BK181 hg; have NB183_181 := bn_ BK181 hg; replace BK181 := bb_ BK181 hb; replace HB := bt_ HB hb; clear hb hg; have hnb10 := NB183_181.out; have hnc10 := NB181_183.out; obtain ⟨hcz11_0, hcz11_1, hcz11_2, hfz11_0, hfz11_1, hfz11_2⟩ := ch3_ BK183; obtain ⟨hcz12_0, hcz12_1, hcz12_2, hfz12_0, hfz12_1, hfz12_2⟩ := ch3_ BK181))
   refine bodyPost_ret (results_ct rfl _ _ gb181 25 #[.int .i64 a3, .int .i64 0, .int .i64 0] (0, 0) _ rfl (bp_ BK181).out Try.underlying25 rfl (by kernel_rfl)) rfl ?_
   exact ⟨es_, (bw_ HB).out⟩
  ·rw [if_neg c7] at H
   have c7b0 : (a1 == 0) = false := beq_eq_false_iff_ne.mpr c7
   have c7b1 : (a1 != 0) = true := bne_iff_ne.mpr c7
   replace H := ob_ H
   obtain ⟨t184, A130, H⟩ := H
   have A13 := Aside0.mk A130
   clear A130
   replace H := ob_ H
   obtain ⟨t185, A140, H⟩ := H
   have A14 := Aside0.mk A140
   clear A140
   by_cases c15 : a3 ≤ (wrap64 (t184 - t185))
   ·rw [if_pos c15] at H
    have c15b0 : decide (a3 ≤ (wrap64 (t184 - t185))) = true := decide_eq_true c15
    clear c15
    simp only [Option.some.injEq, Prod.mk.injEq] at H
    obtain ⟨rfl, rfl, rfl, rfl⟩ := H
    go_enter Try.func170, Try.ntmps170
    go_wp2_with (first | ((refine gd_ 8 ?_); refine bx_ 8 #[.int .i64 0, .int .i64 0, .int .i64 0] 25 ?_; intro gb181 hg w16 BK181 hb; have GW181 := bs_ HB hg; have GE181 := bs_ HB hg; replace HB := bt_ HB hb; clear hb hg) | ((refine gc_ 109 ?_); refine ge_ 15 Try.func109 #[.int .i64 a3, .int .i64 (-6), .int .i64 6] ?_; (with_reducible refine (spec_l01In.calls a3 (-6) 6 true _ A5.out).mono ?_); rintro e w' ⟨rfl, ⟨nd, rfl⟩⟩; refine ⟨_, rfl, ?_⟩; (try (rw [drewN_self w16]; generalize hq_ : World.drewN w16 _ = w16; have n0_ := bq_ BK181 hq_; have n1_ := hq_' HB hq_; clear BK181 HB hq_; have BK181 := n0_; have HB := n1_; clear n0_ n1_))) | ((refine gd_ 10 ?_); refine bx_ 10 #[.int .i64 0, .int .i64 0, .int .i64 0] 25 ?_; intro gb183 hg w17 BK183 hb; have GW183 := bs_ HB hg; have GE183 := bs_ HB hg; have NB181_183 := bm_ BK181 hg; have NB183_181 := bn_ BK181 hg; replace BK181 := bb_ BK181 hb; replace HB := bt_ HB hb; clear hb hg; have hnb18 := NB183_181.out; have hnc18 := NB181_183.out; obtain ⟨hcz19_0, hcz19_1, hcz19_2, hfz19_0, hfz19_1, hfz19_2⟩ := ch3_ BK183) | ((refine gc_ 193 ?_); refine ge_ 25 Try.func193 #[.int .i64 a0, .int .i64 a1] ?_; (with_reducible refine (spec_l01Val.calls k a0 a1 t184 _ A13.out).mono ?_); rintro e w' ⟨rfl, ⟨nd, rfl⟩⟩; refine ⟨_, rfl, ?_⟩) | ((refine gc_ 193 ?_); refine ge_ 28 Try.func193 #[.int .i64 a0, .int .i64 a2] ?_; (with_reducible refine (spec_l01Val.calls k a0 a2 t185 _ A14.out).mono ?_); rintro e w' ⟨rfl, ⟨nd, rfl⟩⟩; refine ⟨_, rfl, ?_⟩; obtain ⟨hcz20_0, hcz20_1, hcz20_2, hfz20_0, hfz20_1, hfz20_2⟩ := ch3_ BK181))
    refine bodyPost_ret (results_ct rfl _ _ gb181 25 #[.int .i64 a3, .int .i64 0, .int .i64 0] (0, 0) _ rfl (bp_ BK181).out Try.underlying25 rfl (by kernel_rfl)) rfl ?_
    exact ⟨es_, (bw_ HB).out⟩
   ·rw [if_neg c15] at H
    have c15b0 : decide (a3 ≤ (wrap64 (t184 - t185))) = false := decide_eq_false c15
    clear c15
    obtain ⟨ji21, hji21⟩ : ∃ j_ : Int, (mx (wrap64 (t185 - t184)) 0) = j_ := ⟨_, rfl⟩
    replace H : (if (ji21) > 6 then (some (0, 0, 0, false)) else ((spec_l01Power.f k a0 (wrap64 (a3 + (ji21)))).bind fun t186 => ((spec_l01Power.f k a0 t184).bind fun t187 => (if t187 = 0 then (none) else ((spec_l01Power.f k a0 t185).bind fun t188 => (if t188 = 0 then (none) else ((spec_l01InvMod.f k (wrap64 (Int.tdiv a2 t188)) t186).bind fun t189 => ((spec_l01MulMod.f (wrap64 (Int.tdiv a1 t187)) t189 t186).bind fun t190 => ((spec_l01Power.f k a0 (mx (wrap64 (t184 - t185)) 0)).bind fun t191 => ((spec_l01MulMod.f t190 t191 t186).bind fun t192 => (some (a3, t192, ji21, true)))))))))))) = some (r1, r2, r3, r4) := by first | (rw [hji21] at H; exact H) | (simp only [hji21] at H ⊢; exact H)
    (try rw [hji21] at A5)
    (try rw [hji21] at A13)
    (try rw [hji21] at A14)
    (try (have hji21l : 0 ≤ ji21 := by (rw [← hji21]; unfold mx; (repeat' split) <;> omega)))
    (try (have hji21m : 0 ≤ ji21 := by omega))
    have hji21_ : (if (wrap64 (t185 - t184)) < 0 then 0 else (wrap64 (t185 - t184))) = ji21 := hji21
    by_cases c22 : (ji21) > 6
    ·rw [if_pos c22] at H
     have c22b0 : decide (6 < (ji21)) = true := decide_eq_true c22
     clear c22
     simp only [Option.some.injEq, Prod.mk.injEq] at H
     obtain ⟨rfl, rfl, rfl, rfl⟩ := H
     go_enter Try.func170, Try.ntmps170
     go_wp2_with (first | ((refine gd_ 8 ?_); refine bx_ 8 #[.int .i64 0, .int .i64 0, .int .i64 0] 25 ?_; intro gb181 hg w23 BK181 hb; have GW181 := bs_ HB hg; have GE181 := bs_ HB hg; replace HB := bt_ HB hb; clear hb hg) | ((refine gc_ 109 ?_); refine ge_ 15 Try.func109 #[.int .i64 a3, .int .i64 (-6), .int .i64 6] ?_; (with_reducible refine (spec_l01In.calls a3 (-6) 6 true _ A5.out).mono ?_); rintro e w' ⟨rfl, ⟨nd, rfl⟩⟩; refine ⟨_, rfl, ?_⟩; (try (rw [drewN_self w23]; generalize hq_ : World.drewN w23 _ = w23; have n0_ := bq_ BK181 hq_; have n1_ := hq_' HB hq_; clear BK181 HB hq_; have BK181 := n0_; have HB := n1_; clear n0_ n1_))) | ((refine gd_ 10 ?_); refine bx_ 10 #[.int .i64 0, .int .i64 0, .int .i64 0] 25 ?_; intro gb183 hg w24 BK183 hb; have GW183 := bs_ HB hg; have GE183 := bs_ HB hg; have NB181_183 := bm_ BK181 hg; have NB183_181 := bn_ BK181 hg; replace BK181 := bb_ BK181 hb; replace HB := bt_ HB hb; clear hb hg; have hnb25 := NB183_181.out; have hnc25 := NB181_183.out; obtain ⟨hcz26_0, hcz26_1, hcz26_2, hfz26_0, hfz26_1, hfz26_2⟩ := ch3_ BK183) | ((refine gc_ 193 ?_); refine ge_ 25 Try.func193 #[.int .i64 a0, .int .i64 a1] ?_; (with_reducible refine (spec_l01Val.calls k a0 a1 t184 _ A13.out).mono ?_); rintro e w' ⟨rfl, ⟨nd, rfl⟩⟩; refine ⟨_, rfl, ?_⟩) | ((refine gc_ 193 ?_); refine ge_ 28 Try.func193 #[.int .i64 a0, .int .i64 a2] ?_; (with_reducible refine (spec_l01Val.calls k a0 a2 t185 _ A14.out).mono ?_); rintro e w' ⟨rfl, ⟨nd, rfl⟩⟩; refine ⟨_, rfl, ?_⟩; obtain ⟨hcz27_0, hcz27_1, hcz27_2, hfz27_0, hfz27_1, hfz27_2⟩ := ch3_ BK181))
     refine bodyPost_ret (results_ct rfl _ _ gb181 25 #[.int .i64 0, .int .i64 0, .int .i64 0] (0, 0) _ rfl (bp_ BK181).out Try.underlying25 rfl (by kernel_rfl)) rfl ?_
     exact ⟨by first | rfl | (simp [errW_none, errW_some] <;> rfl) | (simp only [← hji21]; first | rfl | (simp [errW_none, errW_some] <;> rfl)) | (simp [*, errW_none, errW_some] <;> rfl), (bw_ HB).out⟩
    ·rw [if_neg c22] at H
     have c22b0 : decide (6 < (ji21)) = false := decide_eq_false c22
     clear c22
     replace H := ob_ H
     obtain ⟨t186, A280, H⟩ := H
     have A28 := Aside0.mk A280
     clear A280
     replace H := ob_ H
     obtain ⟨t187, A290, H⟩ := H
     have A29 := Aside0.mk A290
     clear A290
     by_cases c30 : t187 = 0
     ·rw [if_pos c30] at H
      exact absurd H (by simp)
     ·rw [if_neg c30] at H
      have c30b0 : (t187 == 0) = false := beq_eq_false_iff_ne.mpr c30
      have c30b1 : (t187 != 0) = true := bne_iff_ne.mpr c30
      replace H := ob_ H
      obtain ⟨t188, A310, H⟩ := H
      have A31 := Aside0.mk A310
      clear A310
      by_cases c32 : t188 = 0
      ·rw [if_pos c32] at H
       exact absurd H (by simp)
      ·rw [if_neg c32] at H
       have c32b0 : (t188 == 0) = false := beq_eq_false_iff_ne.mpr c32
       have c32b1 : (t188 != 0) = true := bne_iff_ne.mpr c32
       replace H := ob_ H
       obtain ⟨t189, A330, H⟩ := H
       have A33 := Aside0.mk A330
       clear A330
       replace H := ob_ H
       obtain ⟨t190, A340, H⟩ := H
       have A34 := Aside0.mk A340
       clear A340
       obtain ⟨ji35, hji35⟩ : ∃ j_ : Int, (mx (wrap64 (t184 - t185)) 0) = j_ := ⟨_, rfl⟩
       replace H : ((spec_l01Power.f k a0 (ji35)).bind fun t191 => ((spec_l01MulMod.f t190 t191 t186).bind fun t192 => (some (a3, t192, ji21, true)))) = some (r1, r2, r3, r4) := by first | (rw [hji35] at H; exact H) | (simp only [hji35] at H ⊢; exact H)
       (try rw [hji35] at A5)
       (try rw [hji35] at A13)
       (try rw [hji35] at A14)
       (try rw [hji35] at A28)
       (try rw [hji35] at A29)
       (try rw [hji35] at A31)
       (try rw [hji35] at A33)
       (try rw [hji35] at A34)
       (try (have hji35l : 0 ≤ ji35 := by (rw [← hji35]; unfold mx; (repeat' split) <;> omega)))
       (try (have hji35m : 0 ≤ ji35 := by omega))
       have hji35_ : (if (wrap64 (t184 - t185)) < 0 then 0 else (wrap64 (t184 - t185))) = ji35 := hji35
       replace H := ob_ H
       obtain ⟨t191, A360, H⟩ := H
       have A36 := Aside0.mk A360
       clear A360
       replace H := ob_ H
       obtain ⟨t192, A370, H⟩ := H
       have A37 := Aside0.mk A370
       clear A370
       simp only [Option.some.injEq, Prod.mk.injEq] at H
       obtain ⟨rfl, rfl, rfl, rfl⟩ := H
       go_enter Try.func170, Try.ntmps170
       go_wp2_with (first | ((refine gd_ 8 ?_); refine bx_ 8 #[.int .i64 0, .int .i64 0, .int .i64 0] 25 ?_; intro gb181 hg w38 BK181 hb; have GW181 := bs_ HB hg; have GE181 := bs_ HB hg; replace HB := bt_ HB hb; clear hb hg) | ((refine gc_ 109 ?_); refine ge_ 15 Try.func109 #[.int .i64 a3, .int .i64 (-6), .int .i64 6] ?_; (with_reducible refine (spec_l01In.calls a3 (-6) 6 true _ A5.out).mono ?_); rintro e w' ⟨rfl, ⟨nd, rfl⟩⟩; refine ⟨_, rfl, ?_⟩; (try (rw [drewN_self w38]; generalize hq_ : World.drewN w38 _ = w38; have n0_ := bq_ BK181 hq_; have n1_ := hq_' HB hq_; clear BK181 HB hq_; have BK181 := n0_; have HB := n1_; clear n0_ n1_))) | ((refine gd_ 10 ?_); refine bx_ 10 #[.int .i64 0, .int .i64 0, .int .i64 0] 25 ?_; intro gb183 hg w39 BK183 hb; have GW183 := bs_ HB hg; have GE183 := bs_ HB hg; have NB181_183 := bm_ BK181 hg; have NB183_181 := bn_ BK181 hg; replace BK181 := bb_ BK181 hb; replace HB := bt_ HB hb; clear hb hg; have hnb40 := NB183_181.out; have hnc40 := NB181_183.out; obtain ⟨hcz41_0, hcz41_1, hcz41_2, hfz41_0, hfz41_1, hfz41_2⟩ := ch3_ BK183) | ((refine gc_ 193 ?_); refine ge_ 25 Try.func193 #[.int .i64 a0, .int .i64 a1] ?_; (with_reducible refine (spec_l01Val.calls k a0 a1 t184 _ A13.out).mono ?_); rintro e w' ⟨rfl, ⟨nd, rfl⟩⟩; refine ⟨_, rfl, ?_⟩) | ((refine gc_ 193 ?_); refine ge_ 28 Try.func193 #[.int .i64 a0, .int .i64 a2] ?_; (with_reducible refine (spec_l01Val.calls k a0 a2 t185 _ A14.out).mono ?_); rintro e w' ⟨rfl, ⟨nd, rfl⟩⟩; refine ⟨_, rfl, ?_⟩) | ((refine gc_ 169 ?_); refine ge_ 49 Try.func169 #[.int .i64 a0, .int .i64 (wrap64 (a3 + (ji21)))] ?_ (hargs := by (try simp only [List.map_toArray, List.map_cons, List.map_nil]); first | done | (simp only [hji21]; rfl) | rfl | (simp only [List.length_drop, List.length_take]; rfl)); (with_reducible refine (spec_l01Power.calls k a0 (wrap64 (a3 + (ji21))) t186 _ A28.out).mono ?_); rintro e w' ⟨rfl, ⟨nd, rfl⟩⟩; refine ⟨_, rfl, ?_⟩) | ((refine gc_ 169 ?_); refine ge_ 53 Try.func169 #[.int .i64 a0, .int .i64 t184] ?_; (with_reducible refine (spec_l01Power.calls k a0 t184 t187 _ A29.out).mono ?_); rintro e w' ⟨rfl, ⟨nd, rfl⟩⟩; refine ⟨_, rfl, ?_⟩) | ((refine gc_ 169 ?_); refine ge_ 58 Try.func169 #[.int .i64 a0, .int .i64 t185] ?_; (with_reducible refine (spec_l01Power.calls k a0 t185 t188 _ A31.out).mono ?_); rintro e w' ⟨rfl, ⟨nd, rfl⟩⟩; refine ⟨_, rfl, ?_⟩) | ((refine gc_ 195 ?_); refine ge_ 63 Try.func195 #[.int .i64 (wrap64 (Int.tdiv a2 t188)), .int .i64 t186] ?_; (with_reducible refine (spec_l01InvMod.calls k (wrap64 (Int.tdiv a2 t188)) t186 t189 _ A33.out).mono ?_); rintro e w' ⟨rfl, ⟨nd, rfl⟩⟩; refine ⟨_, rfl, ?_⟩) | ((refine gc_ 194 ?_); refine ge_ 65 Try.func194 #[.int .i64 (wrap64 (Int.tdiv a1 t187)), .int .i64 t189, .int .i64 t186] ?_; (with_reducible refine (spec_l01MulMod.calls (wrap64 (Int.tdiv a1 t187)) t189 t186 t190 _ A34.out).mono ?_); rintro e w' ⟨rfl, ⟨nd, rfl⟩⟩; refine ⟨_, rfl, ?_⟩) | ((refine gc_ 169 ?_); refine ge_ 71 Try.func169 #[.int .i64 a0, .int .i64 ji35] ?_ (hargs := by (try simp only [List.map_toArray, List.map_cons, List.map_nil]); first | done | (simp only [hji35]; rfl) | rfl | (simp only [List.length_drop, List.length_take]; rfl)); (with_reducible refine (spec_l01Power.calls k a0 ji35 t191 _ A36.out).mono ?_); rintro e w' ⟨rfl, ⟨nd, rfl⟩⟩; refine ⟨_, rfl, ?_⟩) | ((refine gc_ 194 ?_); refine ge_ 73 Try.func194 #[.int .i64 t190, .int .i64 t191, .int .i64 t186] ?_; (with_reducible refine (spec_l01MulMod.calls t190 t191 t186 t192 _ A37.out).mono ?_); rintro e w' ⟨rfl, ⟨nd, rfl⟩⟩; refine ⟨_, rfl, ?_⟩; obtain ⟨hcz42_0, hcz42_1, hcz42_2, hfz42_0, hfz42_1, hfz42_2⟩ := ch3_ BK181))
       refine bodyPost_ret (results_ct rfl _ _ gb181 25 #[.int .i64 a3, .int .i64 t192, .int .i64 ji21] (0, 0) _ rfl (bp_ BK181).out Try.underlying25 rfl (by kernel_rfl)) rfl ?_
       exact ⟨by first | rfl | (simp [errW_none, errW_some] <;> rfl) | (simp only [← hji21, ← hji35]; first | rfl | (simp [errW_none, errW_some] <;> rfl)) | (simp [*, errW_none, errW_some] <;> rfl), (bw_ HB).out⟩
 ·replace c6 := Bool.eq_false_iff.mpr c6
  subst c6
  have H1 : (some (0, 0, 0, false)) = some (r1, r2, r3, r4) := by rw [if_neg (show ¬ (false = true) by decide)] at H; exact H
  clear H
  have H := H1
  clear H1
  simp only [Option.some.injEq, Prod.mk.injEq] at H
  obtain ⟨rfl, rfl, rfl, rfl⟩ := H
  go_enter Try.func170, Try.ntmps170
  go_wp2_with (first | ((refine gd_ 8 ?_); refine bx_ 8 #[.int .i64 0, .int .i64 0, .int .i64 0] 25 ?_; intro gb181 hg w43 BK181 hb; have GW181 := bs_ HB hg; have GE181 := bs_ HB hg; replace HB := bt_ HB hb; clear hb hg) | ((refine gc_ 109 ?_); refine ge_ 15 Try.func109 #[.int .i64 a3, .int .i64 (-6), .int .i64 6] ?_; (with_reducible refine (spec_l01In.calls a3 (-6) 6 false _ A5.out).mono ?_); rintro e w' ⟨rfl, ⟨nd, rfl⟩⟩; refine ⟨_, rfl, ?_⟩; (try (rw [drewN_self w43]; generalize hq_ : World.drewN w43 _ = w43; have n0_ := bq_ BK181 hq_; have n1_ := hq_' HB hq_; clear BK181 HB hq_; have BK181 := n0_; have HB := n1_; clear n0_ n1_)); obtain ⟨hcz44_0, hcz44_1, hcz44_2, hfz44_0, hfz44_1, hfz44_2⟩ := ch3_ BK181))
  refine bodyPost_ret (results_ct rfl _ _ gb181 25 #[.int .i64 0, .int .i64 0, .int .i64 0] (0, 0) _ rfl (bp_ BK181).out Try.underlying25 rfl (by kernel_rfl)) rfl ?_
  exact ⟨es_, (bw_ HB).out⟩
/-! ### spec_l01Parent: function 152 -/
def spec_l01Parent.f (k : Nat) (a0 : Int) (a1_0 : Int) (a1_1 : Int) (a1_2 : Int) : Option (Int × Int × Int × Bool) := (spec_l01Power.f k a0 a1_2).bind fun t195 => ((spec_l01Of.f k a0 a1_1 t195 (wrap64 (a1_0 - 1))).bind fun bt196 => (some (bt196.1, bt196.2.1, bt196.2.2.1, bt196.2.2.2)))
def spec_l01Parent.T1 : Bool × List (List Nat × List Nat) := (true, [([], []), ([], []), ([1], [1]), ([], []), ([], []), ([4], [4]), ([3, 5], [3, 5]), ([], []), ([7], [7]), ([8], [8]), ([0, 2, 6, 9, 6], [0, 2, 6, 9]), ([10], [10]), ([11], [11]), ([11], [11]), ([], []), ([14, 12, 10, 0, 1, 2, 3, 4, 5, 6, 7, 8, 9, 10, 11, 12, 14], [12, 14]), ([13, 15, 0, 1, 2, 3, 4, 5, 6, 7, 8, 9, 10, 11, 12, 13, 14, 15], [13])])
def spec_l01Parent.B1 : List Nat := [0, 0, 2, 0, 0, 16, 56, 0, 128, 384, 1023, 2047, 4095, 4095, 0, 24575, 65535]
theorem spec_l01Parent.tab1 : rtab .any (opsOf Try.f152 1) = spec_l01Parent.T1 := by kernel_rfl
theorem spec_l01Parent.bits1 : waitsOk spec_l01Parent.T1.2 spec_l01Parent.B1 = true := by kernel_rfl
theorem spec_l01Parent.calls (k : Nat) (a0 : Int) (a1_0 : Int) (a1_1 : Int) (a1_2 : Int) (r1 : Int) (r2 : Int) (r3 : Int) (r4 : Bool) (w : World) (h : spec_l01Parent.f k a0 a1_0 a1_1 a1_2 = some (r1, r2, r3, r4)) :
  Calls Try.prog 152 #[.int .i64 a0, .agg #[.int .i64 a1_0, .int .i64 a1_1, .int .i64 a1_2]] w fun e w' => e = .returned (.tuple #[.agg #[.int .i64 r1, .int .i64 r2, .int .i64 r3], .bool r4]) ∧ Below w.heap.size w w' := by
 have hu25 := Try.underlying25
 have HB := Aside0.mk (Below.refl w.heap.size w)
 have H : ((spec_l01Power.f k a0 a1_2).bind fun t195 => ((spec_l01Of.f k a0 a1_1 t195 (wrap64 (a1_0 - 1))).bind fun bt196 => (some (bt196.1, bt196.2.1, bt196.2.2.1, bt196.2.2.2)))) = some (r1, r2, r3, r4) := h
 clear h
 replace H := ob_ H
 obtain ⟨t195, A30, H⟩ := H
 have A3 := Aside0.mk A30
 clear A30
 replace H := ob_ H
 obtain ⟨⟨t196, t197, t198, t199⟩, A40, H⟩ := H
 have A4 := Aside0.mk A40
 clear A40
 simp only [Option.some.injEq, Prod.mk.injEq] at H
 obtain ⟨rfl, rfl, rfl, rfl⟩ := H
 go_enter Try.func152, Try.ntmps152
 try go_wp2_with (first | ((refine gd_ 3 ?_); refine bx_ 3 #[.int .i64 a1_0, .int .i64 a1_1, .int .i64 a1_2] 25 ?_; intro gb193 hg w5 BK193 hb; have GW193 := bs_ HB hg; have GE193 := bs_ HB hg; replace HB := bt_ HB hb; clear hb hg) | ((refine gd_ 4 ?_); refine bx_ 4 #[.int .i64 0, .int .i64 0, .int .i64 0] 25 ?_; intro gb194 hg w6 BK194 hb; have GW194 := bs_ HB hg; have GE194 := bs_ HB hg; have NB193_194 := bm_ BK193 hg; have NB194_193 := bn_ BK193 hg; replace BK193 := bb_ BK193 hb; replace HB := bt_ HB hb; clear hb hg))
 replace BK193 := Aside0.mk (blk_drew BK193.out)
 replace BK194 := Aside0.mk (blk_drew BK194.out)
 replace HB := Aside0.mk (below_drew1 HB.out)
 refine start_ (n := 17) (S := fun w' => w'.cell? ⟨gb193, 0, none⟩ = some (.int .i64 a1_0) ∧ w'.cell? ⟨gb193, 1, none⟩ = some (.int .i64 a1_1) ∧ w'.cell? ⟨gb193, 2, none⟩ = some (.int .i64 a1_2)) (ds := []) (bv_ 17 0) (by kernel_rfl) rfl rfl ⟨cz_ BK193 0, cz_ BK193 1, cz_ BK193 2⟩ (fun hHeld => ?_); refine with_tabW spec_l01Parent.tab1 spec_l01Parent.bits1 (fun HT_ HW_ => ?_)
 generalize w6.drew = w7 at BK193 BK194 HB hHeld ⊢
 refine px_ HT_ 0 9 1 ?_
 refine px_ HT_ 1 10 3 ?_
 refine px_ HT_ 3 12 11 ?_
 refine px_ HT_ 4 13 27 ?_
 refine px_ HT_ 7 16 155 ?_
 refine ta_ HT_ HW_ 2 (some 11) (bv_ 17 159) hHeld ?_ (hy := by rintro w' ⟨s0, s1, s2⟩; go_simp; with_reducible rfl)
 refine ta_ HT_ HW_ 5 (some 14) (bv_ 17 191) hHeld ?_ (hy := by rintro w' ⟨s0, s1, s2⟩; go_simp; with_reducible rfl)
 refine ta_ HT_ HW_ 8 (some 17) (bv_ 17 447) hHeld ?_ (hy := by rintro w' ⟨s0, s1, s2⟩; go_simp; with_reducible rfl)
 refine px_ HT_ 9 18 959 ?_
 refine join_ (σ := Nat) 2 (bv_ 17 32767) (fun s_ => [(15, .int .i64 t195), (19, .tuple #[.agg #[.int .i64 t196, .int .i64 t197, .int .i64 t198], .bool t199]), (6, .pointer (some ⟨s_, 0, none⟩)), (8, .tuple #[.agg #[.int .i64 t196, .int .i64 t197, .int .i64 t198], .bool t199]), (20, .agg #[.int .i64 t196, .int .i64 t197, .int .i64 t198]), (21, .bool t199)]) (fun s_ w' => (w'.cell? ⟨gb193, 0, none⟩ = some (.int .i64 a1_0) ∧ w'.cell? ⟨gb193, 1, none⟩ = some (.int .i64 a1_1) ∧ w'.cell? ⟨gb193, 2, none⟩ = some (.int .i64 a1_2)) ∧ (w'.heap[gb193]? = some (.cells #[.int .i64 a1_0, .int .i64 a1_1, .int .i64 a1_2] 25 (0, 0))) ∧ (w'.heap[gb194]? = some (.cells #[.int .i64 0, .int .i64 0, .int .i64 0] 25 (0, 0))) ∧ (w'.heap[s_]? = some (.cells #[.int .i64 0, .int .i64 0, .int .i64 0] 25 (0, 0))) ∧ (w.heap.size ≤ s_) ∧ (w.heap.size ≤ s_) ∧ (gb193 ≠ s_) ∧ (s_ ≠ gb193) ∧ (gb194 ≠ s_) ∧ (s_ ≠ gb194) ∧ (Below w.heap.size w w')) ?_ ?_
 rotate_left
 ·intro hCont
  refine tw_ HT_ 6 14 (some 15) (some 6) (bv_ 17 1023) (bv_ 17 17343) (fun K hK => ?_) (fun K hK => ?_)
  ·skip
   refine gs_ Try.func169 #[.int .i64 a0, .int .i64 a1_2] ?_
   with_reducible refine (spec_l01Power.calls k a0 a1_2 t195 _ A3.out).mono ?_
   rintro e w' ⟨rfl, ⟨nd, rfl⟩⟩
   refine ⟨_, rfl, ?_⟩
   refine hK.out _ _ ⟨cz_ BK193 0, cz_ BK193 1, cz_ BK193 2⟩ (fun hHeld => ?_)
   clear hK K
   refine nm_ (some 15) ?_
   refine tw_ HT_ 10 14 (some 19) (some 6) (bv_ 17 2047) (bv_ 17 17407) (fun K hK => ?_) (fun K hK => ?_)
   ·skip
    refine gs_ Try.func170 #[.int .i64 a0, .int .i64 a1_1, .int .i64 t195, .int .i64 (wrap64 (a1_0 - 1))] ?_
    with_reducible refine (spec_l01Of.calls k a0 a1_1 t195 (wrap64 (a1_0 - 1)) t196 t197 t198 t199 _ A4.out).mono ?_
    rintro e w8 ⟨rfl, hb⟩
    refine ⟨_, rfl, ?_⟩
    replace BK193 := bb_ BK193 hb
    replace BK194 := bb_ BK194 hb
    replace HB := bt_ HB hb
    (try clear hb)
    (try clear hb2)
    (try clear hk)
    (try clear hi)
    refine hK.out _ _ ⟨cz_ BK193 0, cz_ BK193 1, cz_ BK193 2⟩ (fun hHeld => ?_)
    clear hK K
    refine nm_ (some 19) ?_
    refine px_ HT_ 11 8 4095 ?_
    refine px_ HT_ 12 20 8191 ?_
    refine px_ HT_ 13 21 16383 ?_
    refine on_ HT_ 14 (some 6) (bv_ 17 32767) (fun K hK => ?_)
    refine bz_ 6 #[.int .i64 0, .int .i64 0, .int .i64 0] 25 ?_
    intro gb200 hg w9 BK200 hb
    have GW200 := bs_ HB hg
    have GE200 := bs_ HB hg
    have NB193_200 := bm_ BK193 hg
    have NB200_193 := bn_ BK193 hg
    have NB194_200 := bm_ BK194 hg
    have NB200_194 := bn_ BK194 hg
    replace BK193 := bb_ BK193 hb
    replace BK194 := bb_ BK194 hb
    replace HB := bt_ HB hb
    clear hb hg
    refine hK.out _ _ ⟨cz_ BK193 0, cz_ BK193 1, cz_ BK193 2⟩ (fun hHeld => ?_)
    clear hK K
    refine nm_ (some 6) ?_
    exact norm_ (by simp only [putAll, Act.put, lstS, lstZ, lstC]) (hCont (gb200) _ ⟨hHeld, (bl_ BK193).out, (bl_ BK194).out, (bl_ BK200).out, GW200.out, GE200.out, NB193_200.out, NB200_193.out, NB194_200.out, NB200_194.out, (bw_ HB).out⟩)
   ·skip
    refine bz_ 6 #[.int .i64 0, .int .i64 0, .int .i64 0] 25 ?_
    intro gb200 hg w8 BK200 hb
    have GW200 := bs_ HB hg
    have GE200 := bs_ HB hg
    have NB193_200 := bm_ BK193 hg
    have NB200_193 := bn_ BK193 hg
    have NB194_200 := bm_ BK194 hg
    have NB200_194 := bn_ BK194 hg
    replace BK193 := bb_ BK193 hb
    replace BK194 := bb_ BK194 hb
    replace HB := bt_ HB hb
    clear hb hg
    refine hK.out _ _ ⟨cz_ BK193 0, cz_ BK193 1, cz_ BK193 2⟩ (fun hHeld => ?_)
    clear hK K
    refine nm_ (some 6) ?_
    refine on_ HT_ 10 (some 19) (bv_ 17 18431) (fun K hK => ?_)
    refine gs_ Try.func170 #[.int .i64 a0, .int .i64 a1_1, .int .i64 t195, .int .i64 (wrap64 (a1_0 - 1))] ?_
    with_reducible refine (spec_l01Of.calls k a0 a1_1 t195 (wrap64 (a1_0 - 1)) t196 t197 t198 t199 _ A4.out).mono ?_
    rintro e w9 ⟨rfl, hb⟩
    refine ⟨_, rfl, ?_⟩
    replace BK193 := bb_ BK193 hb
    replace BK194 := bb_ BK194 hb
    replace BK200 := bb_ BK200 hb
    replace HB := bt_ HB hb
    (try clear hb)
    (try clear hb2)
    (try clear hk)
    (try clear hi)
    refine hK.out _ _ ⟨cz_ BK193 0, cz_ BK193 1, cz_ BK193 2⟩ (fun hHeld => ?_)
    clear hK K
    refine nm_ (some 19) ?_
    refine px_ HT_ 11 8 20479 ?_
    refine px_ HT_ 12 20 24575 ?_
    refine px_ HT_ 13 21 32767 ?_
    exact norm_ (by simp only [putAll, Act.put, lstS, lstZ, lstC]) (hCont (gb200) _ ⟨hHeld, (bl_ BK193).out, (bl_ BK194).out, (bl_ BK200).out, GW200.out, GE200.out, NB193_200.out, NB200_193.out, NB194_200.out, NB200_194.out, (bw_ HB).out⟩)
  ·skip
   refine bz_ 6 #[.int .i64 0, .int .i64 0, .int .i64 0] 25 ?_
   intro gb200 hg w8 BK200 hb
   have GW200 := bs_ HB hg
   have GE200 := bs_ HB hg
   have NB193_200 := bm_ BK193 hg
   have NB200_193 := bn_ BK193 hg
   have NB194_200 := bm_ BK194 hg
   have NB200_194 := bn_ BK194 hg
   replace BK193 := bb_ BK193 hb
   replace BK194 := bb_ BK194 hb
   replace HB := bt_ HB hb
   clear hb hg
   refine hK.out _ _ ⟨cz_ BK193 0, cz_ BK193 1, cz_ BK193 2⟩ (fun hHeld => ?_)
   clear hK K
   refine nm_ (some 6) ?_
   refine on_ HT_ 6 (some 15) (bv_ 17 17407) (fun K hK => ?_)
   refine gs_ Try.func169 #[.int .i64 a0, .int .i64 a1_2] ?_
   with_reducible refine (spec_l01Power.calls k a0 a1_2 t195 _ A3.out).mono ?_
   rintro e w' ⟨rfl, ⟨nd, rfl⟩⟩
   refine ⟨_, rfl, ?_⟩
   refine hK.out _ _ ⟨cz_ BK193 0, cz_ BK193 1, cz_ BK193 2⟩ (fun hHeld => ?_)
   clear hK K
   refine nm_ (some 15) ?_
   refine on_ HT_ 10 (some 19) (bv_ 17 18431) (fun K hK => ?_)
   refine gs_ Try.func170 #[.int .i64 a0, .int .i64 a1_1, .int .i64 t195, .int .i64 (wrap64 (a1_0 - 1))] ?_
   with_reducible refine (spec_l01Of.calls k a0 a1_1 t195 (wrap64 (a1_0 - 1)) t196 t197 t198 t199 _ A4.out).mono ?_
   rintro e w9 ⟨rfl, hb⟩
   refine ⟨_, rfl, ?_⟩
   replace BK193 := bb_ BK193 hb
   replace BK194 := bb_ BK194 hb
   replace BK200 := bb_ BK200 hb
   replace HB := bt_ HB hb
   (try clear hb)
   (try clear hb2)
   (try clear hk)
   (try clear hi)
   refine hK.out _ _ ⟨cz_ BK193 0, cz_ BK193 1, cz_ BK193 2⟩ (fun hHeld => ?_)
   clear hK K
   refine nm_ (some 19) ?_
   refine px_ HT_ 11 8 20479 ?_
   refine px_ HT_ 12 20 24575 ?_
   refine px_ HT_ 13 21 32767 ?_
   exact norm_ (by simp only [putAll, Act.put, lstS, lstZ, lstC]) (hCont (gb200) _ ⟨hHeld, (bl_ BK193).out, (bl_ BK194).out, (bl_ BK200).out, GW200.out, GE200.out, NB193_200.out, NB200_193.out, NB194_200.out, NB200_194.out, (bw_ HB).out⟩)
 rintro gb200 w10 ⟨hS_, h0_, h1_, h2_, h3_, h4_, h5_, h6_, h7_, h8_, h9_⟩
 have n0_ : Aside0 (w10.heap[gb193]? = some (.cells #[.int .i64 a1_0, .int .i64 a1_1, .int .i64 a1_2] 25 (0, 0))) := ⟨h0_⟩
 have n1_ : Aside0 (w10.heap[gb194]? = some (.cells #[.int .i64 0, .int .i64 0, .int .i64 0] 25 (0, 0))) := ⟨h1_⟩
 have n2_ : Aside0 (w10.heap[gb200]? = some (.cells #[.int .i64 0, .int .i64 0, .int .i64 0] 25 (0, 0))) := ⟨h2_⟩
 have n3_ : Aside0 (w.heap.size ≤ gb200) := ⟨h3_⟩
 have n4_ : Aside0 (w.heap.size ≤ gb200) := ⟨h4_⟩
 have n5_ : Aside0 (gb193 ≠ gb200) := ⟨h5_⟩
 have n6_ : Aside0 (gb200 ≠ gb193) := ⟨h6_⟩
 have n7_ : Aside0 (gb194 ≠ gb200) := ⟨h7_⟩
 have n8_ : Aside0 (gb200 ≠ gb194) := ⟨h8_⟩
 have n9_ : Aside0 (Below w.heap.size w w10) := ⟨h9_⟩
 clear BK193
 clear BK194
 clear HB
 clear h0_ h1_ h2_ h3_ h4_ h5_ h6_ h7_ h8_ h9_
 have BK193 := n0_
 have BK194 := n1_
 have BK200 := n2_
 have GW200 := n3_
 have GE200 := n4_
 have NB193_200 := n5_
 have NB200_193 := n6_
 have NB194_200 := n7_
 have NB200_194 := n8_
 have HB := n9_
 clear n0_ n1_ n2_ n3_ n4_ n5_ n6_ n7_ n8_ n9_
 have hHeld : w10.cell? ⟨gb193, 0, none⟩ = some (.int .i64 a1_0) ∧ w10.cell? ⟨gb193, 1, none⟩ = some (.int .i64 a1_1) ∧ w10.cell? ⟨gb193, 2, none⟩ = some (.int .i64 a1_2) := hS_
 refine norm_ (a' := ?_) ?_ ?_
 rotate_left
 ·simp only [putAll, Act.put, lstS, lstZ, lstC]
  rfl
 refine on_ HT_ 15 none (bv_ 17 65535) (fun K hK => ?_)
 have hs11 : w10.cell? ⟨gb200, 0, none⟩ = some (.int .i64 0) := (blk_cell BK200.out 0).trans rfl
 have hfs11 := blk_frozen BK200.out 0
 have hns11_0 := NB193_200.out
 have hns11_1 := NB194_200.out
 have hms11_0 := NB200_193.out
 have hms11_1 := NB200_194.out
 have hs12 : w10.cell? ⟨gb200, 1, none⟩ = some (.int .i64 0) := (blk_cell BK200.out 1).trans rfl
 have hfs12 := blk_frozen BK200.out 1
 have hns12_0 := NB193_200.out
 have hns12_1 := NB194_200.out
 have hms12_0 := NB200_193.out
 have hms12_1 := NB200_194.out
 have hs13 : w10.cell? ⟨gb200, 2, none⟩ = some (.int .i64 0) := (blk_cell BK200.out 2).trans rfl
 have hfs13 := blk_frozen BK200.out 2
 have hns13_0 := NB193_200.out
 have hns13_1 := NB194_200.out
 have hms13_0 := NB200_193.out
 have hms13_1 := NB200_194.out
 refine skip_ (w1 := ?_) (by rfl) rfl ?_ ?_
 rotate_left
 ·go_simp
  rfl
 refine hK.out _ _ ⟨(cg_ NB193_200 ((cg_ NB193_200 ((cg_ NB193_200 (hHeld.1)))))), (cg_ NB193_200 ((cg_ NB193_200 ((cg_ NB193_200 (hHeld.2.1)))))), (cg_ NB193_200 ((cg_ NB193_200 ((cg_ NB193_200 (hHeld.2.2))))))⟩ (fun hHeld => ?_)
 clear hK K
 refine px_ HT_ 16 7 131071 ?_
 refine done_ (done_of HT_.out (by kernel_rfl)) ?_
 have hnb14 := NB200_193.out
 have hnc14 := NB193_200.out
 have hnb15 := NB200_194.out
 have hnc15 := NB194_200.out
 obtain ⟨hcz16_0, hcz16_1, hcz16_2, hfz16_0, hfz16_1, hfz16_2⟩ := ch3_ BK200
 have hnb17 := NB194_193.out
 have hnc17 := NB193_194.out
 obtain ⟨hcz18_0, hcz18_1, hcz18_2, hfz18_0, hfz18_1, hfz18_2⟩ := ch3_ BK194
 try go_wp2
 refine bodyPost_ret (results_ct rfl _ _ gb194 25 #[.int .i64 t196, .int .i64 t197, .int .i64 t198] (0, 0) _ rfl (bp_ BK194).out Try.underlying25 rfl (by kernel_rfl)) rfl ?_
 exact ⟨es_, (bw_ HB).out⟩
end Go.Proofs.Ytgoeelhiffbjlaa.QT
