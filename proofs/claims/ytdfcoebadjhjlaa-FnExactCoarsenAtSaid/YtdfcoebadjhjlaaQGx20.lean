import Derived.Test.YtdfcoebadjhjlaaQGx6
import Derived.Test.YtdfcoebadjhjlaaQGx19
namespace Go.Proofs.Ytdfcoebadjhjlaa.QG
open Go.RowKit Go.Proofs.YtdfcoebadjhjlaaW.PrintWords Go.Proofs.YtdfcoebadjhjlaaW.PrintLast Go.Proofs.YtdfcoebadjhjlaaW.PrintMore
attribute [local go_sem] isSome_setCell max2_int min2_int max_two min_two max_three min_three max_four min_four
set_option linter.unusedVariables false
set_option linter.unusedSimpArgs false

/-! ### spec_l01Of: function 75 -/
def spec_l01Of.f (k : Nat) (a0 a1 a2 a3 : Int) : Option (Int × Int × Int × Bool) := (spec_l01In.f a3 (-6) 6).bind fun t150 => (if t150 = true then (if a1 = 0 then (some (a3, 0, 0, true)) else ((spec_l01Val.f k a0 a1).bind fun t152 => ((spec_l01Val.f k a0 a2).bind fun t153 => (if a3 ≤ (wrap64 (t152 - t153)) then (some (a3, 0, 0, true)) else (if (mx (wrap64 (t153 - t152)) 0) > 6 then (some (0, 0, 0, false)) else ((spec_l01Power.f k a0 (wrap64 (a3 + (mx (wrap64 (t153 - t152)) 0)))).bind fun t154 => ((spec_l01Power.f k a0 t152).bind fun t155 => (if t155 = 0 then (none) else ((spec_l01Power.f k a0 t153).bind fun t156 => (if t156 = 0 then (none) else ((spec_l01InvMod.f k (wrap64 (Int.tdiv a2 t156)) t154).bind fun t157 => ((spec_l01MulMod.f (wrap64 (Int.tdiv a1 t155)) t157 t154).bind fun t158 => ((spec_l01Power.f k a0 (mx (wrap64 (t152 - t153)) 0)).bind fun t159 => ((spec_l01MulMod.f t158 t159 t154).bind fun t160 => (some (a3, t160, mx (wrap64 (t153 - t152)) 0, true)))))))))))))))) else (some (0, 0, 0, false)))
set_option maxHeartbeats 8000000 in
set_option maxRecDepth 100000 in
theorem spec_l01Of.calls (k : Nat) (a0 a1 a2 a3 r1 r2 r3 : Int) (r4 : Bool) (w : World) (h : spec_l01Of.f k a0 a1 a2 a3 = some (r1, r2, r3, r4)) :
  Calls Try.prog 75 #[.int .i64 a0, .int .i64 a1, .int .i64 a2, .int .i64 a3] w fun e w' => e = .returned (.tuple #[.agg #[.int .i64 r1, .int .i64 r2, .int .i64 r3], .bool r4]) ∧ Below w.heap.size w w' := by
 have hu31 := Try.underlying31
 have HB := Aside0.mk (Below.refl w.heap.size w)
 unfold spec_l01Of.f at h
 have H := h
 clear h
 replace H := oc_ H
 obtain ⟨t150, A5, H⟩ := H
 replace H := ib_ H
 rcases H with ⟨rfl, H⟩ | ⟨rfl, H⟩
 ·replace H := ie_ H
  rcases H with ⟨c7b0, c7b1, H⟩ | ⟨c7, c7b0, c7b1, H⟩
  ·simp only [Option.some.injEq, Prod.mk.injEq] at H
   obtain ⟨rfl, rfl, rfl, rfl⟩ := H
   go_enter Try.func75, Try.ntmps75
   go_wp2_with (first | ((refine gd_ 8 ?_); refine by_ 8 #[.int .i64 0, .int .i64 0, .int .i64 0] 31 HB ?_; intro gb149 hg w8 BK149 hb GW149 HB_; replace HB := HB_; clear hb hg) | ((refine gc_ 42 ?_); refine ge_ 15 Try.func42 #[.int .i64 a3, .int .i64 (-6), .int .i64 6] ?_; (with_reducible refine (spec_l01In.calls a3 (-6) 6 true _ A5.out).mono ?_); rintro e w' ⟨rfl, ⟨nd, rfl⟩⟩; refine ⟨_, rfl, ?_⟩; (try (rw [drewN_self w8]; generalize hq_ : World.drewN w8 _ = w8; replace BK149 := bq_ BK149 hq_; replace HB := hq_' HB hq_; clear hq_))) | ((refine gd_ 10 ?_); refine by_ 10 #[.int .i64 0, .int .i64 0, .int .i64 0] 31 HB ?_; intro gb151 hg w9 BK151 hb GW151 HB_; have NB149_151 := bm_ BK149 hg; have NB151_149 := bn_ BK149 hg; replace BK149 := bb_ BK149 hb; replace HB := HB_; clear hb hg; have hnb10 := NB151_149.out; have hnc10 := NB149_151.out; obtain ⟨hcz11_0, hcz11_1, hcz11_2, hfz11_0, hfz11_1, hfz11_2⟩ := ch3_ BK151; obtain ⟨hcz12_0, hcz12_1, hcz12_2, hfz12_0, hfz12_1, hfz12_2⟩ := ch3_ BK149))
   refine bodyPost_ret (results_ct rfl _ _ gb149 31 #[.int .i64 a3, .int .i64 0, .int .i64 0] (0, 0) _ rfl (bp_ BK149).out Try.underlying31 rfl (by kernel_rfl)) rfl ?_
   exact ⟨es_, (bw_ HB).out⟩
  replace H := oc_ H
  obtain ⟨t152, A13, H⟩ := H
  replace H := oc_ H
  obtain ⟨t153, A14, H⟩ := H
  replace H := im_ H
  rcases H with ⟨c15b0, H⟩ | ⟨c15b0, H⟩
  ·simp only [Option.some.injEq, Prod.mk.injEq] at H
   obtain ⟨rfl, rfl, rfl, rfl⟩ := H
   go_enter Try.func75, Try.ntmps75
   go_wp2_with (first | ((refine gd_ 8 ?_); refine by_ 8 #[.int .i64 0, .int .i64 0, .int .i64 0] 31 HB ?_; intro gb149 hg w16 BK149 hb GW149 HB_; replace HB := HB_; clear hb hg) | ((refine gc_ 42 ?_); refine ge_ 15 Try.func42 #[.int .i64 a3, .int .i64 (-6), .int .i64 6] ?_; (with_reducible refine (spec_l01In.calls a3 (-6) 6 true _ A5.out).mono ?_); rintro e w' ⟨rfl, ⟨nd, rfl⟩⟩; refine ⟨_, rfl, ?_⟩; (try (rw [drewN_self w16]; generalize hq_ : World.drewN w16 _ = w16; replace BK149 := bq_ BK149 hq_; replace HB := hq_' HB hq_; clear hq_))) | ((refine gd_ 10 ?_); refine by_ 10 #[.int .i64 0, .int .i64 0, .int .i64 0] 31 HB ?_; intro gb151 hg w17 BK151 hb GW151 HB_; have NB149_151 := bm_ BK149 hg; have NB151_149 := bn_ BK149 hg; replace BK149 := bb_ BK149 hb; replace HB := HB_; clear hb hg; have hnb18 := NB151_149.out; have hnc18 := NB149_151.out; obtain ⟨hcz19_0, hcz19_1, hcz19_2, hfz19_0, hfz19_1, hfz19_2⟩ := ch3_ BK151) | ((refine gc_ 94 ?_); refine ge_ 25 Try.func94 #[.int .i64 a0, .int .i64 a1] ?_; (with_reducible refine (spec_l01Val.calls k a0 a1 t152 _ A13.out).mono ?_); rintro e w' ⟨rfl, ⟨nd, rfl⟩⟩; refine ⟨_, rfl, ?_⟩) | ((refine gc_ 94 ?_); refine ge_ 28 Try.func94 #[.int .i64 a0, .int .i64 a2] ?_; (with_reducible refine (spec_l01Val.calls k a0 a2 t153 _ A14.out).mono ?_); rintro e w' ⟨rfl, ⟨nd, rfl⟩⟩; refine ⟨_, rfl, ?_⟩; obtain ⟨hcz20_0, hcz20_1, hcz20_2, hfz20_0, hfz20_1, hfz20_2⟩ := ch3_ BK149))
   refine bodyPost_ret (results_ct rfl _ _ gb149 31 #[.int .i64 a3, .int .i64 0, .int .i64 0] (0, 0) _ rfl (bp_ BK149).out Try.underlying31 rfl (by kernel_rfl)) rfl ?_
   exact ⟨es_, (bw_ HB).out⟩
  obtain ⟨ji21, hji21⟩ : ∃ j_ : Int, (mx (wrap64 (t153 - t152)) 0) = j_ := ⟨_, rfl⟩
  replace H : (if (ji21) > 6 then (some (0, 0, 0, false)) else ((spec_l01Power.f k a0 (wrap64 (a3 + (ji21)))).bind fun t154 => ((spec_l01Power.f k a0 t152).bind fun t155 => (if t155 = 0 then (none) else ((spec_l01Power.f k a0 t153).bind fun t156 => (if t156 = 0 then (none) else ((spec_l01InvMod.f k (wrap64 (Int.tdiv a2 t156)) t154).bind fun t157 => ((spec_l01MulMod.f (wrap64 (Int.tdiv a1 t155)) t157 t154).bind fun t158 => ((spec_l01Power.f k a0 (mx (wrap64 (t152 - t153)) 0)).bind fun t159 => ((spec_l01MulMod.f t158 t159 t154).bind fun t160 => (some (a3, t160, ji21, true)))))))))))) = some (r1, r2, r3, r4) := by first | (rw [hji21] at H; exact H) | (simp only [hji21] at H ⊢; exact H)
  (try rw [hji21] at A5)
  (try rw [hji21] at A13)
  (try rw [hji21] at A14)
  (try (have hji21l : 0 ≤ ji21 := by (rw [← hji21]; unfold mx; (repeat' split) <;> omega)))
  (try (have hji21m : 0 ≤ ji21 := by omega))
  have hji21_ : (if (wrap64 (t153 - t152)) < 0 then 0 else (wrap64 (t153 - t152))) = ji21 := hji21
  replace H := ig_ H
  rcases H with ⟨c22b0, H⟩ | ⟨c22b0, H⟩
  ·simp only [Option.some.injEq, Prod.mk.injEq] at H
   obtain ⟨rfl, rfl, rfl, rfl⟩ := H
   go_enter Try.func75, Try.ntmps75
   go_wp2_with (first | ((refine gd_ 8 ?_); refine by_ 8 #[.int .i64 0, .int .i64 0, .int .i64 0] 31 HB ?_; intro gb149 hg w23 BK149 hb GW149 HB_; replace HB := HB_; clear hb hg) | ((refine gc_ 42 ?_); refine ge_ 15 Try.func42 #[.int .i64 a3, .int .i64 (-6), .int .i64 6] ?_; (with_reducible refine (spec_l01In.calls a3 (-6) 6 true _ A5.out).mono ?_); rintro e w' ⟨rfl, ⟨nd, rfl⟩⟩; refine ⟨_, rfl, ?_⟩; (try (rw [drewN_self w23]; generalize hq_ : World.drewN w23 _ = w23; replace BK149 := bq_ BK149 hq_; replace HB := hq_' HB hq_; clear hq_))) | ((refine gd_ 10 ?_); refine by_ 10 #[.int .i64 0, .int .i64 0, .int .i64 0] 31 HB ?_; intro gb151 hg w24 BK151 hb GW151 HB_; have NB149_151 := bm_ BK149 hg; have NB151_149 := bn_ BK149 hg; replace BK149 := bb_ BK149 hb; replace HB := HB_; clear hb hg; have hnb25 := NB151_149.out; have hnc25 := NB149_151.out; obtain ⟨hcz26_0, hcz26_1, hcz26_2, hfz26_0, hfz26_1, hfz26_2⟩ := ch3_ BK151) | ((refine gc_ 94 ?_); refine ge_ 25 Try.func94 #[.int .i64 a0, .int .i64 a1] ?_; (with_reducible refine (spec_l01Val.calls k a0 a1 t152 _ A13.out).mono ?_); rintro e w' ⟨rfl, ⟨nd, rfl⟩⟩; refine ⟨_, rfl, ?_⟩) | ((refine gc_ 94 ?_); refine ge_ 28 Try.func94 #[.int .i64 a0, .int .i64 a2] ?_; (with_reducible refine (spec_l01Val.calls k a0 a2 t153 _ A14.out).mono ?_); rintro e w' ⟨rfl, ⟨nd, rfl⟩⟩; refine ⟨_, rfl, ?_⟩; obtain ⟨hcz27_0, hcz27_1, hcz27_2, hfz27_0, hfz27_1, hfz27_2⟩ := ch3_ BK149))
   refine bodyPost_ret (results_ct rfl _ _ gb149 31 #[.int .i64 0, .int .i64 0, .int .i64 0] (0, 0) _ rfl (bp_ BK149).out Try.underlying31 rfl (by kernel_rfl)) rfl ?_
   exact ⟨by first | rfl | (simp [errW_none, errW_some] <;> rfl) | (simp only [← hji21]; first | rfl | (simp [errW_none, errW_some] <;> rfl)) | (simp [*, errW_none, errW_some] <;> rfl), (bw_ HB).out⟩
  replace H := oc_ H
  obtain ⟨t154, A28, H⟩ := H
  replace H := oc_ H
  obtain ⟨t155, A29, H⟩ := H
  replace H := ief_ H
  obtain ⟨c30, c30b0, c30b1, H⟩ := H
  replace H := oc_ H
  obtain ⟨t156, A31, H⟩ := H
  replace H := ief_ H
  obtain ⟨c32, c32b0, c32b1, H⟩ := H
  replace H := oc_ H
  obtain ⟨t157, A33, H⟩ := H
  replace H := oc_ H
  obtain ⟨t158, A34, H⟩ := H
  obtain ⟨ji35, hji35⟩ : ∃ j_ : Int, (mx (wrap64 (t152 - t153)) 0) = j_ := ⟨_, rfl⟩
  replace H : ((spec_l01Power.f k a0 (ji35)).bind fun t159 => ((spec_l01MulMod.f t158 t159 t154).bind fun t160 => (some (a3, t160, ji21, true)))) = some (r1, r2, r3, r4) := by first | (rw [hji35] at H; exact H) | (simp only [hji35] at H ⊢; exact H)
  (try rw [hji35] at A5)
  (try rw [hji35] at A13)
  (try rw [hji35] at A14)
  (try rw [hji35] at A28)
  (try rw [hji35] at A29)
  (try rw [hji35] at A31)
  (try rw [hji35] at A33)
  (try rw [hji35] at A34)
  (try (have hji35l : 0 ≤ ji35 := by (rw [← hji35]; unfold mx; (repeat' split) <;> omega)))
  (try (have hji35m : 0 ≤ ji35 := by omega))
  have hji35_ : (if (wrap64 (t152 - t153)) < 0 then 0 else (wrap64 (t152 - t153))) = ji35 := hji35
  replace H := oc_ H
  obtain ⟨t159, A36, H⟩ := H
  replace H := oc_ H
  obtain ⟨t160, A37, H⟩ := H
  simp only [Option.some.injEq, Prod.mk.injEq] at H
  obtain ⟨rfl, rfl, rfl, rfl⟩ := H
  go_enter Try.func75, Try.ntmps75
  go_wp2_with (first | ((refine gd_ 8 ?_); refine by_ 8 #[.int .i64 0, .int .i64 0, .int .i64 0] 31 HB ?_; intro gb149 hg w38 BK149 hb GW149 HB_; replace HB := HB_; clear hb hg) | ((refine gc_ 42 ?_); refine ge_ 15 Try.func42 #[.int .i64 a3, .int .i64 (-6), .int .i64 6] ?_; (with_reducible refine (spec_l01In.calls a3 (-6) 6 true _ A5.out).mono ?_); rintro e w' ⟨rfl, ⟨nd, rfl⟩⟩; refine ⟨_, rfl, ?_⟩; (try (rw [drewN_self w38]; generalize hq_ : World.drewN w38 _ = w38; replace BK149 := bq_ BK149 hq_; replace HB := hq_' HB hq_; clear hq_))) | ((refine gd_ 10 ?_); refine by_ 10 #[.int .i64 0, .int .i64 0, .int .i64 0] 31 HB ?_; intro gb151 hg w39 BK151 hb GW151 HB_; have NB149_151 := bm_ BK149 hg; have NB151_149 := bn_ BK149 hg; replace BK149 := bb_ BK149 hb; replace HB := HB_; clear hb hg; have hnb40 := NB151_149.out; have hnc40 := NB149_151.out; obtain ⟨hcz41_0, hcz41_1, hcz41_2, hfz41_0, hfz41_1, hfz41_2⟩ := ch3_ BK151) | ((refine gc_ 94 ?_); refine ge_ 25 Try.func94 #[.int .i64 a0, .int .i64 a1] ?_; (with_reducible refine (spec_l01Val.calls k a0 a1 t152 _ A13.out).mono ?_); rintro e w' ⟨rfl, ⟨nd, rfl⟩⟩; refine ⟨_, rfl, ?_⟩) | ((refine gc_ 94 ?_); refine ge_ 28 Try.func94 #[.int .i64 a0, .int .i64 a2] ?_; (with_reducible refine (spec_l01Val.calls k a0 a2 t153 _ A14.out).mono ?_); rintro e w' ⟨rfl, ⟨nd, rfl⟩⟩; refine ⟨_, rfl, ?_⟩) | ((refine gc_ 68 ?_); refine ge_ 49 Try.func68 #[.int .i64 a0, .int .i64 (wrap64 (a3 + (ji21)))] ?_ (hargs := by (try simp only [List.map_toArray, List.map_cons, List.map_nil]); first | done | (simp only [hji21]; rfl) | rfl | (simp only [List.length_drop, List.length_take]; rfl)); (with_reducible refine (spec_l01Power.calls k a0 (wrap64 (a3 + (ji21))) t154 _ A28.out).mono ?_); rintro e w' ⟨rfl, ⟨nd, rfl⟩⟩; refine ⟨_, rfl, ?_⟩) | ((refine gc_ 68 ?_); refine ge_ 53 Try.func68 #[.int .i64 a0, .int .i64 t152] ?_; (with_reducible refine (spec_l01Power.calls k a0 t152 t155 _ A29.out).mono ?_); rintro e w' ⟨rfl, ⟨nd, rfl⟩⟩; refine ⟨_, rfl, ?_⟩) | ((refine gc_ 68 ?_); refine ge_ 58 Try.func68 #[.int .i64 a0, .int .i64 t153] ?_; (with_reducible refine (spec_l01Power.calls k a0 t153 t156 _ A31.out).mono ?_); rintro e w' ⟨rfl, ⟨nd, rfl⟩⟩; refine ⟨_, rfl, ?_⟩) | ((refine gc_ 96 ?_); refine ge_ 63 Try.func96 #[.int .i64 (wrap64 (Int.tdiv a2 t156)), .int .i64 t154] ?_; (with_reducible refine (spec_l01InvMod.calls k (wrap64 (Int.tdiv a2 t156)) t154 t157 _ A33.out).mono ?_); rintro e w' ⟨rfl, ⟨nd, rfl⟩⟩; refine ⟨_, rfl, ?_⟩) | ((refine gc_ 95 ?_); refine ge_ 65 Try.func95 #[.int .i64 (wrap64 (Int.tdiv a1 t155)), .int .i64 t157, .int .i64 t154] ?_; (with_reducible refine (spec_l01MulMod.calls (wrap64 (Int.tdiv a1 t155)) t157 t154 t158 _ A34.out).mono ?_); rintro e w' ⟨rfl, ⟨nd, rfl⟩⟩; refine ⟨_, rfl, ?_⟩) | ((refine gc_ 68 ?_); refine ge_ 71 Try.func68 #[.int .i64 a0, .int .i64 ji35] ?_ (hargs := by (try simp only [List.map_toArray, List.map_cons, List.map_nil]); first | done | (simp only [hji35]; rfl) | rfl | (simp only [List.length_drop, List.length_take]; rfl)); (with_reducible refine (spec_l01Power.calls k a0 ji35 t159 _ A36.out).mono ?_); rintro e w' ⟨rfl, ⟨nd, rfl⟩⟩; refine ⟨_, rfl, ?_⟩) | ((refine gc_ 95 ?_); refine ge_ 73 Try.func95 #[.int .i64 t158, .int .i64 t159, .int .i64 t154] ?_; (with_reducible refine (spec_l01MulMod.calls t158 t159 t154 t160 _ A37.out).mono ?_); rintro e w' ⟨rfl, ⟨nd, rfl⟩⟩; refine ⟨_, rfl, ?_⟩; obtain ⟨hcz42_0, hcz42_1, hcz42_2, hfz42_0, hfz42_1, hfz42_2⟩ := ch3_ BK149))
  refine bodyPost_ret (results_ct rfl _ _ gb149 31 #[.int .i64 a3, .int .i64 t160, .int .i64 ji21] (0, 0) _ rfl (bp_ BK149).out Try.underlying31 rfl (by kernel_rfl)) rfl ?_
  exact ⟨by first | rfl | (simp [errW_none, errW_some] <;> rfl) | (simp only [← hji21, ← hji35]; first | rfl | (simp [errW_none, errW_some] <;> rfl)) | (simp [*, errW_none, errW_some] <;> rfl), (bw_ HB).out⟩
 simp only [Option.some.injEq, Prod.mk.injEq] at H
 obtain ⟨rfl, rfl, rfl, rfl⟩ := H
 go_enter Try.func75, Try.ntmps75
 go_wp2_with (first | ((refine gd_ 8 ?_); refine by_ 8 #[.int .i64 0, .int .i64 0, .int .i64 0] 31 HB ?_; intro gb149 hg w43 BK149 hb GW149 HB_; replace HB := HB_; clear hb hg) | ((refine gc_ 42 ?_); refine ge_ 15 Try.func42 #[.int .i64 a3, .int .i64 (-6), .int .i64 6] ?_; (with_reducible refine (spec_l01In.calls a3 (-6) 6 false _ A5.out).mono ?_); rintro e w' ⟨rfl, ⟨nd, rfl⟩⟩; refine ⟨_, rfl, ?_⟩; (try (rw [drewN_self w43]; generalize hq_ : World.drewN w43 _ = w43; replace BK149 := bq_ BK149 hq_; replace HB := hq_' HB hq_; clear hq_)); obtain ⟨hcz44_0, hcz44_1, hcz44_2, hfz44_0, hfz44_1, hfz44_2⟩ := ch3_ BK149))
 refine bodyPost_ret (results_ct rfl _ _ gb149 31 #[.int .i64 0, .int .i64 0, .int .i64 0] (0, 0) _ rfl (bp_ BK149).out Try.underlying31 rfl (by kernel_rfl)) rfl ?_
 exact ⟨es_, (bw_ HB).out⟩
end Go.Proofs.Ytdfcoebadjhjlaa.QG
