import Derived.Test.YtdfcoebadjhjlaaQFx9
import Derived.Test.YtdfcoebadjhjlaaQFx28
import Derived.Test.YtdfcoebadjhjlaaQFx49
import Derived.Test.YtdfcoebadjhjlaaQFx51
import Derived.Test.YtdfcoebadjhjlaaQFx53
import Derived.Test.YtdfcoebadjhjlaaQFx55
namespace Go.Proofs.Ytdfcoebadjhjlaa.QF
open Go.RowKit Go.Proofs.YtdfcoebadjhjlaaW.PrintWords Go.Proofs.YtdfcoebadjhjlaaW.PrintLast Go.Proofs.YtdfcoebadjhjlaaW.PrintMore
attribute [local go_sem] isSome_setCell max2_int min2_int max_two min_two max_three min_three max_four min_four
set_option linter.unusedVariables false
set_option linter.unusedSimpArgs false

/-! ### laws_FnExactFlowOf: function 3 -/
def laws_FnExactFlowOf.f (k : Nat) (a0 a1_0 a1_1 a1_2 : Int) (l1_3 : List (S103)) : Option (Bool) := (laws_szMeasure.f a1_0 a1_1 a1_2 l1_3 1048576).bind fun t417 => (if t417 < 0 then (some true) else ((laws_toMeasure.f k a1_0 a1_1 a1_2 l1_3).bind fun bt418 => ((spec_FlowOf.f k a0 bt418.1 bt418.2.1 bt418.2.2.1 bt418.2.2.2).bind fun bt424 => ((laws_toMeasure.f k a1_0 a1_1 a1_2 l1_3).bind fun bt428 => ((impl_FlowOf.f k a0 bt428.1 bt428.2.1 bt428.2.2.1 bt428.2.2.2).bind fun bt435 => ((laws_eqFlowS.f k bt435.1 bt424.1).bind fun t439 => (if t439 = true then (if bt435.2 = bt424.2 then ((laws_toMeasure.f k a1_0 a1_1 a1_2 l1_3).bind fun bt440 => ((laws_eqMeasure.f k bt428.1 bt428.2.1 bt428.2.2.1 bt428.2.2.2 bt440.1 bt440.2.1 bt440.2.2.1 bt440.2.2.2).bind fun t446 => (if t446 = true then ((laws_markMeasure.f k bt428.1 bt428.2.1 bt428.2.2.1 bt428.2.2.2 1).bind fun bt447 => (if bt447.1 < 0 then (none) else ((laws_eqFlowS.f k bt435.1 bt424.1).bind fun t449 => (if t449 = true then ((laws_markFlowS.f k bt435.1 1).bind fun bt450 => ((laws_heldFlowS.f k bt450.2 1).bind fun t452 => (if t452 < 0 then (none) else (if t452 = bt450.1 then ((laws_toMeasure.f k a1_0 a1_1 a1_2 l1_3).bind fun bt453 => ((impl_FlowOf.f k a0 bt453.1 bt453.2.1 bt453.2.2.1 bt453.2.2.2).bind fun bt459 => ((laws_eqFlowS.f k bt459.1 bt424.1).bind fun t463 => (if t463 = true then (if bt459.2 = bt424.2 then ((laws_heldFlowS.f k bt450.2 1).bind fun t464 => (if t464 < 0 then (none) else (if t464 = bt450.1 then (some true) else (none)))) else (none)) else (none))))) else (none))))) else (none))))) else (none)))) else (none)) else (none))))))))
set_option maxHeartbeats 8000000 in
set_option maxRecDepth 100000 in
theorem laws_FnExactFlowOf.calls (k : Nat) (a0 a1_0 a1_1 a1_2 : Int) (A1_3 : Option Addr) (c1_3 : Nat) (l1_3 : List (S103)) (r : Bool) (w : World) (hr1_3 : Kd.C k103 w A1_3 l1_3.length l1_3) (hc1_3 : l1_3.length ≤ c1_3) (h : laws_FnExactFlowOf.f k a0 a1_0 a1_1 a1_2 l1_3 = some r) :
  Calls Try.prog 3 #[.int .i64 a0, .agg #[.int .i64 a1_0, .int .i64 a1_1, .int .i64 a1_2, .slice A1_3 l1_3.length c1_3]] w fun e w' => e = .returned (.bool r) ∧ Below w.heap.size w w' := by
 have hu26 := Try.underlying26
 have hu34 := Try.underlying34
 have HR1_3 := Aside0.mk hr1_3
 have HC1_3 := Aside0.mk hc1_3
 clear hr1_3 hc1_3
 have HB := Aside0.mk (Below.refl w.heap.size w)
 unfold laws_FnExactFlowOf.f at h
 have H := h
 clear h
 replace H := oc_ H
 obtain ⟨t417, A3, H⟩ := H
 replace H := il_ H
 rcases H with ⟨c4b0, H⟩ | ⟨c4b0, H⟩
 ·obtain rfl := si_ H
  go_enter Try.func3, Try.ntmps3
  go_wp2_with (first | ((refine gd_ 3 ?_); refine by_ 3 #[.int .i64 a1_0, .int .i64 a1_1, .int .i64 a1_2, .slice A1_3 l1_3.length c1_3] 26 HB ?_; intro gb416 hg w5 BK416 hb GW416 HB_; replace HB := HB_; clear hb hg; obtain ⟨hcz6_0, hcz6_1, hcz6_2, hcz6_3, hfz6_0, hfz6_1, hfz6_2, hfz6_3⟩ := ch4_ BK416) | ((refine gc_ 7 ?_); refine ge_ 18 Try.func7 #[.agg #[.int .i64 a1_0, .int .i64 a1_1, .int .i64 a1_2, .slice A1_3 l1_3.length c1_3], .int .i64 1048576] ?_; (with_reducible refine (laws_szMeasure.calls a1_0 a1_1 a1_2 _ _ l1_3 1048576 t417 _ ?side1 ?side2 A3.out).mono ?_); (case side1 => exact ca_ (Kd.C_below HR1_3.out HB.out)); (case side2 => exact HC1_3.out); rintro e w7 ⟨rfl, hb⟩; refine ⟨_, rfl, ?_⟩; replace BK416 := bb_ BK416 hb; replace HB := bt_ HB hb; (try clear hb)))
  go_ret
  exact ⟨es_, (bw_ HB).out⟩
 replace H := oc_ H
 obtain ⟨⟨t418, t419, t420, t421⟩, A8, H⟩ := H
 replace H := oc_ H
 obtain ⟨⟨t424, t427⟩, A9, H⟩ := H
 replace H := oc_ H
 obtain ⟨⟨t428, t429, t430, t431⟩, A10, H⟩ := H
 replace H := oc_ H
 obtain ⟨⟨t435, t438⟩, A11, H⟩ := H
 replace H := oc_ H
 obtain ⟨t439, A12, H⟩ := H
 replace H := ibn_ H
 obtain ⟨rfl, H⟩ := H
 replace H := ien_ H
 obtain ⟨c14b0, c14b1, H⟩ := H
 replace H := oc_ H
 obtain ⟨⟨t440, t441, t442, t443⟩, A15, H⟩ := H
 replace H := oc_ H
 obtain ⟨t446, A16, H⟩ := H
 replace H := ibn_ H
 obtain ⟨rfl, H⟩ := H
 replace H := oc_ H
 obtain ⟨⟨t447, t448⟩, A18, H⟩ := H
 replace H := ilf_ H
 obtain ⟨c19b0, H⟩ := H
 replace H := oc_ H
 obtain ⟨t449, A20, H⟩ := H
 replace H := ibn_ H
 obtain ⟨rfl, H⟩ := H
 replace H := oc_ H
 obtain ⟨⟨t450, t451⟩, A22, H⟩ := H
 replace H := oc_ H
 obtain ⟨t452, A23, H⟩ := H
 replace H := ilf_ H
 obtain ⟨c24b0, H⟩ := H
 replace H := ien_ H
 obtain ⟨c25b0, c25b1, H⟩ := H
 replace H := oc_ H
 obtain ⟨⟨t453, t454, t455, t456⟩, A26, H⟩ := H
 replace H := oc_ H
 obtain ⟨⟨t459, t462⟩, A27, H⟩ := H
 replace H := oc_ H
 obtain ⟨t463, A28, H⟩ := H
 replace H := ibn_ H
 obtain ⟨rfl, H⟩ := H
 replace H := ien_ H
 obtain ⟨c30b0, c30b1, H⟩ := H
 replace H := oc_ H
 obtain ⟨t464, A31, H⟩ := H
 replace H := ilf_ H
 obtain ⟨c32b0, H⟩ := H
 replace H := ien_ H
 obtain ⟨c33b0, c33b1, H⟩ := H
 obtain rfl := si_ H
 go_enter Try.func3, Try.ntmps3
 try go_wp2_with (first | ((refine gd_ 3 ?_); refine by_ 3 #[.int .i64 a1_0, .int .i64 a1_1, .int .i64 a1_2, .slice A1_3 l1_3.length c1_3] 26 HB ?_; intro gb416 hg w34 BK416 hb GW416 HB_; replace HB := HB_; clear hb hg; obtain ⟨hcz35_0, hcz35_1, hcz35_2, hcz35_3, hfz35_0, hfz35_1, hfz35_2, hfz35_3⟩ := ch4_ BK416) | ((refine gc_ 7 ?_); refine ge_ 18 Try.func7 #[.agg #[.int .i64 a1_0, .int .i64 a1_1, .int .i64 a1_2, .slice A1_3 l1_3.length c1_3], .int .i64 1048576] ?_; (with_reducible refine (laws_szMeasure.calls a1_0 a1_1 a1_2 _ _ l1_3 1048576 t417 _ ?side1 ?side2 A3.out).mono ?_); (case side1 => exact ca_ (Kd.C_below HR1_3.out HB.out)); (case side2 => exact HC1_3.out); rintro e w36 ⟨rfl, hb⟩; refine ⟨_, rfl, ?_⟩; replace BK416 := bb_ BK416 hb; replace HB := bt_ HB hb; (try clear hb); obtain ⟨hcz37_0, hcz37_1, hcz37_2, hcz37_3, hfz37_0, hfz37_1, hfz37_2, hfz37_3⟩ := ch4_ BK416) | ((refine gc_ 9 ?_); refine ge_ 24 Try.func9 #[.agg #[.int .i64 a1_0, .int .i64 a1_1, .int .i64 a1_2, .slice A1_3 l1_3.length c1_3]] ?_; (with_reducible refine (laws_toMeasure.calls k a1_0 a1_1 a1_2 _ _ l1_3 t418 t419 t420 t421 _ ?side1 ?side2 A8.out).mono ?_); (case side1 => exact ca_ (Kd.C_below HR1_3.out HB.out)); (case side2 => exact HC1_3.out); rintro e w38 ⟨v422, rfl, ho0, hb⟩; refine ⟨_, rfl, ?_⟩; have HO423 := Aside0.mk (Kd.R_lower ho0 (below_size (bw_ HB).out)); replace BK416 := bb_ BK416 hb; replace HB := bt_ HB hb; (try clear hb); (try clear ho0); obtain ⟨Ao39, co39, eo39⟩ := Kd.R_slice HO423.out; subst eo39) | ((refine gc_ 8 ?_); refine ge_ 25 Try.func8 #[.int .i64 a0, .agg #[.int .i64 t418, .int .i64 t419, .int .i64 t420, .slice Ao39 t421.length co39]] ?_; (with_reducible refine (spec_FlowOf.calls k a0 t418 t419 t420 _ _ t421 t424 t427 _ ?side1 ?side2 A9.out).mono ?_); (case side1 => exact ca_ (Kd.R_reads' HO423.out).2.2); (case side2 => exact (Kd.R_reads' HO423.out).2.1); rintro e w40 ⟨v425, rfl, ho0, hb⟩; refine ⟨_, rfl, ?_⟩; have HO426 := Aside0.mk (Kd.R_lower ho0 (below_size (bw_ HB).out)); replace HO423 := rb_ HO423 hb; replace BK416 := bb_ BK416 hb; replace HB := bt_ HB hb; (try clear hb); (try clear ho0); obtain ⟨hcz41_0, hcz41_1, hcz41_2, hcz41_3, hfz41_0, hfz41_1, hfz41_2, hfz41_3⟩ := ch4_ BK416) | ((refine gc_ 9 ?_); refine ge_ 29 Try.func9 #[.agg #[.int .i64 a1_0, .int .i64 a1_1, .int .i64 a1_2, .slice A1_3 l1_3.length c1_3]] ?_; (with_reducible refine (laws_toMeasure.calls k a1_0 a1_1 a1_2 _ _ l1_3 t428 t429 t430 t431 _ ?side1 ?side2 A10.out).mono ?_); (case side1 => exact ca_ (Kd.C_below HR1_3.out HB.out)); (case side2 => exact HC1_3.out); rintro e w42 ⟨v432, rfl, ho0, hb⟩; refine ⟨_, rfl, ?_⟩; have HO433 := Aside0.mk (Kd.R_lower (Kd.R_new' ho0 (Kd.R_lt (ra_ HO423.out))) (below_size (bw_ HB).out)); replace HO423 := Aside0.mk (Kd.R_elder' (ra_ HO423.out) (Kd.R_base ho0) hb); replace HO426 := rb_ HO426 hb; replace BK416 := bb_ BK416 hb; replace HB := bt_ HB hb; (try clear hb); (try clear ho0)) | ((refine gd_ 8 ?_); refine bx_ 8 #[.int .i64 0, .int .i64 0, .int .i64 0, .slice none 0 0] 34 ?_; intro gb434 hg w43 BK434 hb; have GW434 := bs_ HB hg; have NB416_434 := bm_ BK416 hg; have NB434_416 := bn_ BK416 hg; replace HO423 := rb_ HO423 hb; replace HO426 := rb_ HO426 hb; replace HO433 := rb_ HO433 hb; replace BK416 := bb_ BK416 hb; replace HB := bt_ HB hb; clear hb hg; have hnb44 := NB434_416.out; have hnc44 := NB416_434.out; obtain ⟨hcz45_0, hcz45_1, hcz45_2, hcz45_3, hfz45_0, hfz45_1, hfz45_2, hfz45_3⟩ := ch4_ BK434; obtain ⟨Ao46, co46, eo46⟩ := Kd.R_slice HO433.out; subst eo46) | ((refine gc_ 10 ?_); refine ge_ 33 Try.func10 #[.int .i64 a0, .agg #[.int .i64 t428, .int .i64 t429, .int .i64 t430, .slice Ao46 t431.length co46]] ?_; (with_reducible refine (impl_FlowOf.calls k a0 t428 t429 t430 _ _ t431 t435 t438 _ ?side1 ?side2 A11.out).mono ?_); (case side1 => refine (Kd.R_reads' (e := 72) (base := w.heap.size) (ok := fun k_ => (True ∧ some k_ ≠ (.slice Ao39 t421.length co39 : Value).ownBlock)) (n := t431.length) (c := co46) ?_).2.2; exact (ra_ (rs4_ HO433.out BK434.out))); (case side2 => exact (Kd.R_reads' HO433.out).2.1); rintro e w47 ⟨v436, rfl, ho0, hb⟩; refine ⟨_, rfl, ?_⟩; have HO437 := Aside0.mk (Kd.R_lower (Kd.R_new' ho0 (Kd.R_lt (ra_ (rs4_ HO426.out BK434.out)))) (below_size (bw_ HB).out)); replace HO423 := Aside0.mk (Kd.R_below (ra_ (rs4_ HO423.out BK434.out)) hb); replace HO426 := Aside0.mk (Kd.R_elder' (ra_ (rs4_ HO426.out BK434.out)) (Kd.R_base ho0) hb); replace HO433 := Aside0.mk (Kd.R_below (ra_ (rs4_ HO433.out BK434.out)) hb); replace BK416 := fb_ BK416 NB416_434 hb; replace BK434 := Aside0.mk (blk_below (g := gb434) (o := .cells #[.int .i64 t428, .int .i64 t429, .int .i64 t430, .slice Ao46 t431.length co46] 34 (0, 0)) (bp_ BK434).out hb); replace HB := bt_ HB hb; (try clear hb); (try clear ho0); obtain ⟨Ao48, co48, eo48⟩ := Kd.R_slice HO437.out; subst eo48; obtain ⟨Ao49, co49, eo49⟩ := Kd.R_slice HO426.out; subst eo49) | ((refine gc_ 11 ?_); refine ge_ 38 Try.func11 #[.slice Ao48 t435.length co48, .slice Ao49 t424.length co49] ?_; (with_reducible refine (laws_eqFlowS.calls k _ _ t435 _ _ t424 true _ ?side1 ?side2 ?side3 ?side4 A12.out).mono ?_); (case side1 => exact ca_ (Kd.R_reads' HO437.out).2.2); (case side2 => exact (Kd.R_reads' HO437.out).2.1); (case side3 => exact ca_ (Kd.R_reads' HO426.out).2.2); (case side4 => exact (Kd.R_reads' HO426.out).2.1); rintro e w50 ⟨rfl, hb⟩; refine ⟨_, rfl, ?_⟩; replace HO423 := rb_ HO423 hb; replace HO426 := rb_ HO426 hb; replace HO433 := rb_ HO433 hb; replace HO437 := rb_ HO437 hb; replace BK416 := bb_ BK416 hb; replace BK434 := bb_ BK434 hb; replace HB := bt_ HB hb; (try clear hb)))
 replace HO423 := Aside0.mk (Kd.R_drew HO423.out)
 replace HO426 := Aside0.mk (Kd.R_drew HO426.out)
 replace HO433 := Aside0.mk (Kd.R_drew HO433.out)
 replace HO437 := Aside0.mk (Kd.R_drew HO437.out)
 replace BK416 := bd_ BK416
 replace BK434 := bd_ BK434
 replace HB := be_ HB
 refine start_ (n := 5) (S := fun w' => w'.cell? ⟨gb434, 0, none⟩ = some (.int .i64 t428) ∧ w'.cell? ⟨gb434, 1, none⟩ = some (.int .i64 t429) ∧ w'.cell? ⟨gb434, 2, none⟩ = some (.int .i64 t430) ∧ w'.cell? ⟨gb434, 3, none⟩ = some (.slice Ao46 t431.length co46) ∧ w'.cell? ⟨gb416, 0, none⟩ = some (.int .i64 a1_0) ∧ w'.cell? ⟨gb416, 1, none⟩ = some (.int .i64 a1_1) ∧ w'.cell? ⟨gb416, 2, none⟩ = some (.int .i64 a1_2) ∧ w'.cell? ⟨gb416, 3, none⟩ = some (.slice A1_3 l1_3.length c1_3)) (ds := []) (bv_ 5 0) (by kernel_rfl) rfl rfl ⟨cz_ BK434 0, cz_ BK434 1, cz_ BK434 2, cz_ BK434 3, cz_ BK416 0, cz_ BK416 1, cz_ BK416 2, cz_ BK416 3⟩ (fun hHeld => ?_)
 generalize w50.drew = w51 at HO423 HO426 HO433 HO437 BK416 BK434 HB hHeld ⊢
 refine take_ (i := 0) (N := some 45) (v := ?_) (a' := ?_) (bv_ 5 1) rfl rfl (by kernel_rfl) (fun _ _ _ h => h) (Or.inl ⟨by rfl, ?_⟩) hHeld ?_ ?_
 rotate_left
 ·rintro w' ⟨s0, s1, s2, s3, s4, s5, s6, s7⟩
  go_simp
  with_reducible rfl
 rotate_left
 ·simp only [Act.put, lstS, lstZ, lstC, i64_w, i32_w]
  rfl
 refine take_ (i := 1) (N := some 46) (v := ?_) (a' := ?_) (bv_ 5 3) rfl rfl (by kernel_rfl) (fun _ _ _ h => h) (Or.inl ⟨by rfl, ?_⟩) hHeld ?_ ?_
 rotate_left
 ·rintro w' ⟨s0, s1, s2, s3, s4, s5, s6, s7⟩
  go_simp
  with_reducible rfl
 rotate_left
 ·simp only [Act.put, lstS, lstZ, lstC, i64_w, i32_w]
  rfl
 refine one_ (i := 2) (N := some 47) (bv_ 5 7) rfl rfl (by kernel_rfl) (by decide) (fun K hK => ?_)
 refine gs_ Try.func9 #[.agg #[.int .i64 a1_0, .int .i64 a1_1, .int .i64 a1_2, .slice A1_3 l1_3.length c1_3]] ?_
 with_reducible refine (laws_toMeasure.calls k a1_0 a1_1 a1_2 _ _ l1_3 t440 t441 t442 t443 _ ?side1 ?side2 A15.out).mono ?_
 (case side1 => exact ca_ (Kd.C_below HR1_3.out HB.out))
 (case side2 => exact HC1_3.out)
 rintro e w52 ⟨v444, rfl, ho0, hb⟩
 refine ⟨_, rfl, ?_⟩
 have HO445 := Aside0.mk (Kd.R_lower (Kd.R_new' (Kd.R_new' ho0 (Kd.R_lt (ra_ HO423.out))) (Kd.R_lt (ra_ HO433.out))) (below_size (bw_ HB).out))
 replace HO423 := Aside0.mk (Kd.R_elder' (ra_ HO423.out) (Kd.R_base ho0) hb)
 replace HO426 := rb_ HO426 hb
 replace HO433 := Aside0.mk (Kd.R_elder' (ra_ HO433.out) (Kd.R_base ho0) hb)
 replace HO437 := rb_ HO437 hb
 replace BK416 := bb_ BK416 hb
 replace BK434 := bb_ BK434 hb
 replace HB := bt_ HB hb
 try clear hb
 (try clear ho0)
 obtain ⟨Ao53, co53, eo53⟩ := Kd.R_slice HO445.out
 (first | subst eo53 | (injection eo53 with f1_ f2_ f3_; have f4_ := f1_.symm; have f5_ := f3_.symm; clear f1_ f2_ f3_; subst f4_; subst f5_))
 refine hK.out _ _ ⟨cz_ BK434 0, cz_ BK434 1, cz_ BK434 2, cz_ BK434 3, cz_ BK416 0, cz_ BK416 1, cz_ BK416 2, cz_ BK416 3⟩ (fun hHeld => ?_)
 clear hK K
 refine nm_ (some 47) ?_
 refine one_ (i := 3) (N := some 48) (bv_ 5 15) rfl rfl (by kernel_rfl) (by decide) (fun K hK => ?_)
 refine gs_ Try.func12 #[.agg #[.int .i64 t428, .int .i64 t429, .int .i64 t430, .slice Ao46 t431.length co46], .agg #[.int .i64 t440, .int .i64 t441, .int .i64 t442, .slice Ao53 t443.length co53]] ?_
 with_reducible refine (laws_eqMeasure.calls k t428 t429 t430 _ _ t431 t440 t441 t442 _ _ t443 true _ ?side1 ?side2 ?side3 ?side4 A16.out).mono ?_
 (case side1 => exact ca_ (Kd.R_reads' HO433.out).2.2)
 (case side2 => exact (Kd.R_reads' HO433.out).2.1)
 (case side3 => exact ca_ (Kd.R_reads' HO445.out).2.2)
 (case side4 => exact (Kd.R_reads' HO445.out).2.1)
 rintro e w54 ⟨rfl, hb⟩
 refine ⟨_, rfl, ?_⟩
 replace HO423 := rb_ HO423 hb
 replace HO426 := rb_ HO426 hb
 replace HO433 := rb_ HO433 hb
 replace HO437 := rb_ HO437 hb
 replace HO445 := rb_ HO445 hb
 replace BK416 := bb_ BK416 hb
 replace BK434 := bb_ BK434 hb
 replace HB := bt_ HB hb
 try clear hb
 refine hK.out _ _ ⟨cz_ BK434 0, cz_ BK434 1, cz_ BK434 2, cz_ BK434 3, cz_ BK416 0, cz_ BK416 1, cz_ BK416 2, cz_ BK416 3⟩ (fun hHeld => ?_)
 clear hK K
 refine nm_ (some 48) ?_
 refine pure_ (i := 4) (N := some 49) (v := ?_) (a' := ?_) (bv_ 5 31) rfl rfl (by kernel_rfl) (fun _ _ _ h => h) (Or.inl ⟨by rfl, ?_⟩) ?_ ?_
 rotate_left
 ·intro w'
  go_simp
  with_reducible rfl
 rotate_left
 ·simp only [Act.put, lstS, lstZ, lstC, i64_w, i32_w]
  rfl
 refine done_ (by kernel_rfl) ?_
 obtain ⟨hcz55_0, hcz55_1, hcz55_2, hcz55_3, hfz55_0, hfz55_1, hfz55_2, hfz55_3⟩ := ch4_ BK434
 try go_wp2_with (first | ((refine gc_ 13 ?_); refine ge_ 52 Try.func13 #[.agg #[.int .i64 t428, .int .i64 t429, .int .i64 t430, .slice Ao46 t431.length co46], .int .i64 1] ?_; (with_reducible refine (laws_markMeasure.calls k t428 t429 t430 (fun k_ => some k_ = (.slice Ao46 t431.length co46 : Value).ownBlock) (.slice Ao46 t431.length co46) t431 1 t447 t448 w _ ?side1 ?side2 A18.out).mono ?_); (case side1 => repeat (first | (with_reducible first | exact HB.out | apply below_alloc | apply pw_below_drewN | apply below_drew1 | refine below_set ?_ GW416.out | refine below_set ?_ GW434.out) | exact HB.out)); (case side2 => exact Kd.R_tight rfl HO433.out); rintro e w56 ⟨rfl, hy0, hb, hkp⟩; refine ⟨_, rfl, ?_⟩; replace BK416 := Aside0.mk (blk_kept (bl_ BK416).out hkp (fun hs_ => (fun e_ => (Kd.R_ne HO433.out BK416.out (by decide)) e_) hs_)); replace HO423 := Aside0.mk (Kd.R_mono (ok' := fun k_ => some k_ ≠ (.slice Ao46 t431.length co46 : Value).ownBlock ∧ some k_ ≠ (.slice Ao53 t443.length co53 : Value).ownBlock) (Kd.R_keptB (HO423.out) hkp (fun k_ hk_ hs_ => (hk_.1.2) hs_)) (fun k_ hk_ => ⟨hk_.1.1.2, hk_.1.2⟩)); replace HO426 := Aside0.mk (Kd.R_mono (ok' := fun k_ => some k_ ≠ (.slice Ao48 t435.length co48 : Value).ownBlock) (Kd.R_keptB ((Kd.R_apart' HO426.out (Kd.R_typed HO433.out) (by decide))) hkp (fun k_ hk_ hs_ => (hk_.2) hs_)) (fun k_ hk_ => hk_.1.1.2)); replace BK434 := Aside0.mk (blk_kept (bl_ BK434).out hkp (fun hs_ => (fun e_ => (Kd.R_ne HO433.out BK434.out (by decide)) e_) hs_)); replace HO437 := Aside0.mk (Kd.R_mono (ok' := fun k_ => some k_ ≠ (.slice Ao49 t424.length co49 : Value).ownBlock) (Kd.R_keptB ((Kd.R_apart' HO437.out (Kd.R_typed HO433.out) (by decide))) hkp (fun k_ hk_ hs_ => (hk_.2) hs_)) (fun k_ hk_ => hk_.1.1.2)); replace HO433 := Aside0.mk (Kd.R_reok rfl hy0 (fun k_ e_ => HO433.out.1 k_ e_)); replace HO445 := Aside0.mk (Kd.R_mono (ok' := fun k_ => some k_ ≠ (.slice Ao39 t421.length co39 : Value).ownBlock ∧ some k_ ≠ (.slice Ao46 t431.length co46 : Value).ownBlock) (Kd.R_keptB (HO445.out) hkp (fun k_ hk_ hs_ => (hk_.2) hs_)) (fun k_ hk_ => ⟨hk_.1.1.2, hk_.1.2⟩)); replace HB := Aside0.mk (hb); (try clear hb); (try clear hkp); (try clear hy0)) | (go_at_call 11; (with_reducible refine (laws_eqFlowS.calls k _ _ t435 _ _ t424 true _ ?side1 ?side2 ?side3 ?side4 A20.out).mono ?_); (case side1 => exact ca_ (Kd.R_reads' HO437.out).2.2); (case side2 => exact (Kd.R_reads' HO437.out).2.1); (case side3 => exact ca_ (Kd.R_reads' HO426.out).2.2); (case side4 => exact (Kd.R_reads' HO426.out).2.1); rintro e w57 ⟨rfl, hb⟩; replace HO423 := rb_ HO423 hb; replace HO426 := rb_ HO426 hb; replace HO433 := rb_ HO433 hb; replace HO437 := rb_ HO437 hb; replace HO445 := rb_ HO445 hb; replace BK416 := bb_ BK416 hb; replace BK434 := bb_ BK434 hb; replace HB := bt_ HB hb; (try clear hb)) | ((refine gc_ 14 ?_); refine ge_ 68 Try.func14 #[.slice Ao48 t435.length co48, .int .i64 1] ?_; (with_reducible refine (laws_markFlowS.calls k (fun k_ => some k_ = (.slice Ao48 t435.length co48 : Value).ownBlock) (.slice Ao48 t435.length co48) t435 1 t450 t451 w _ ?side1 ?side2 A22.out).mono ?_); (case side1 => repeat (first | (with_reducible first | exact HB.out | apply below_alloc | apply pw_below_drewN | apply below_drew1 | refine below_set ?_ GW416.out | refine below_set ?_ GW434.out) | exact HB.out)); (case side2 => exact Kd.R_tight rfl HO437.out); rintro e w58 ⟨rfl, hy0, hb, hkp⟩; refine ⟨_, rfl, ?_⟩; replace BK416 := Aside0.mk (blk_kept (bl_ BK416).out hkp (fun hs_ => (fun e_ => (Kd.R_ne HO437.out BK416.out (by decide)) e_) hs_)); replace HO423 := Aside0.mk (Kd.R_mono (ok' := fun k_ => some k_ ≠ (.slice Ao46 t431.length co46 : Value).ownBlock ∧ some k_ ≠ (.slice Ao53 t443.length co53 : Value).ownBlock) (Kd.R_keptB ((Kd.R_apart' HO423.out (Kd.R_typed HO437.out) (by decide))) hkp (fun k_ hk_ hs_ => (hk_.2) hs_)) (fun k_ hk_ => ⟨hk_.1.1.1, hk_.1.1.2⟩)); replace HO426 := Aside0.mk (Kd.R_mono (ok' := fun k_ => some k_ ≠ (.slice Ao48 t435.length co48 : Value).ownBlock) (Kd.R_keptB (HO426.out) hkp (fun k_ hk_ hs_ => (hk_) hs_)) (fun k_ hk_ => hk_.1)); replace HO433 := Aside0.mk (Kd.R_mono (ok' := fun k_ => some k_ ≠ (.slice Ao39 t421.length co39 : Value).ownBlock ∧ some k_ ≠ (.slice Ao53 t443.length co53 : Value).ownBlock) (Kd.R_keptB ((Kd.R_apart' HO433.out (Kd.R_typed HO437.out) (by decide))) hkp (fun k_ hk_ hs_ => (hk_.2) hs_)) (fun k_ hk_ => ⟨hk_.1.1.1.2, hk_.1.1.2⟩)); replace BK434 := Aside0.mk (blk_kept (bl_ BK434).out hkp (fun hs_ => (fun e_ => (Kd.R_ne HO437.out BK434.out (by decide)) e_) hs_)); replace HO445 := Aside0.mk (Kd.R_mono (ok' := fun k_ => some k_ ≠ (.slice Ao39 t421.length co39 : Value).ownBlock ∧ some k_ ≠ (.slice Ao46 t431.length co46 : Value).ownBlock) (Kd.R_keptB ((Kd.R_apart' HO445.out (Kd.R_typed HO437.out) (by decide))) hkp (fun k_ hk_ hs_ => (hk_.2) hs_)) (fun k_ hk_ => ⟨hk_.1.1.1, hk_.1.1.2⟩)); replace HO437 := Aside0.mk (Kd.R_reok rfl hy0 (fun k_ e_ => HO437.out.1 k_ e_)); replace HB := Aside0.mk (hb); (try clear hb); (try clear hkp); (try clear hy0)) | ((refine gc_ 15 ?_); refine goesL_ (some 71) rfl rfl Try.func15 (by kernel_rfl) rfl #[.slice Ao48 t451.length co48, .int .i64 1] rfl (by (try simp only [List.map_toArray, List.map_cons, List.map_nil]); first | done | (rw [show t451.length = t435.length from (Kd.R_reads' HO437.out).1.symm] <;> rfl) | rfl | (simp only [List.length_drop, List.length_take]; rfl)) ?_; (with_reducible refine (laws_heldFlowS.calls k _ _ t451 1 t452 _ ?side1 ?side2 A23.out).mono ?_); (case side1 => exact ca_ (Kd.R_reads' HO437.out).2.2); (case side2 => rw [show t451.length = t435.length from (Kd.R_reads' HO437.out).1.symm]; exact (Kd.R_reads' HO437.out).2.1); rintro e w' ⟨rfl, ⟨nd, rfl⟩⟩; refine ⟨_, rfl, ?_⟩; obtain ⟨hcz59_0, hcz59_1, hcz59_2, hcz59_3, hfz59_0, hfz59_1, hfz59_2, hfz59_3⟩ := ch4_ BK416) | ((refine gc_ 9 ?_); refine ge_ 80 Try.func9 #[.agg #[.int .i64 a1_0, .int .i64 a1_1, .int .i64 a1_2, .slice A1_3 l1_3.length c1_3]] ?_; (with_reducible refine (laws_toMeasure.calls k a1_0 a1_1 a1_2 _ _ l1_3 t453 t454 t455 t456 _ ?side1 ?side2 A26.out).mono ?_); (case side1 => exact ca_ (Kd.C_below HR1_3.out (bw_ HB).out)); (case side2 => exact HC1_3.out); rintro e w60 ⟨v457, rfl, ho0, hb⟩; refine ⟨_, rfl, ?_⟩; have HO458 := Aside0.mk (Kd.R_lower (Kd.R_new' (Kd.R_new' (Kd.R_new' ho0 (Kd.R_lt (ra_ HO423.out))) (Kd.R_lt (ra_ HO433.out))) (Kd.R_lt (ra_ HO445.out))) (below_size (bw_ HB).out)); replace HO423 := Aside0.mk (Kd.R_elder' (ra_ HO423.out) (Kd.R_base ho0) hb); replace HO426 := rb_ HO426 hb; replace HO433 := Aside0.mk (Kd.R_elder' (ra_ HO433.out) (Kd.R_base ho0) hb); replace HO437 := rb_ HO437 hb; replace HO445 := Aside0.mk (Kd.R_elder' (ra_ HO445.out) (Kd.R_base ho0) hb); replace BK416 := bb_ BK416 hb; replace BK434 := bb_ BK434 hb; replace HB := bt_ HB hb; (try clear hb); (try clear ho0); obtain ⟨Ao61, co61, eo61⟩ := Kd.R_slice HO458.out; subst eo61) | ((refine gc_ 10 ?_); refine ge_ 81 Try.func10 #[.int .i64 a0, .agg #[.int .i64 t453, .int .i64 t454, .int .i64 t455, .slice Ao61 t456.length co61]] ?_; (with_reducible refine (impl_FlowOf.calls k a0 t453 t454 t455 _ _ t456 t459 t462 _ ?side1 ?side2 A27.out).mono ?_); (case side1 => exact ca_ (Kd.R_reads' HO458.out).2.2); (case side2 => exact (Kd.R_reads' HO458.out).2.1); rintro e w62 ⟨v460, rfl, ho0, hb⟩; refine ⟨_, rfl, ?_⟩; have HO461 := Aside0.mk (Kd.R_lower (Kd.R_new' (Kd.R_new' ho0 (Kd.R_lt (ra_ HO426.out))) (Kd.R_lt (ra_ HO437.out))) (below_size (bw_ HB).out)); replace HO423 := rb_ HO423 hb; replace HO426 := Aside0.mk (Kd.R_elder' (ra_ HO426.out) (Kd.R_base ho0) hb); replace HO433 := rb_ HO433 hb; replace HO437 := Aside0.mk (Kd.R_elder' (ra_ HO437.out) (Kd.R_base ho0) hb); replace HO445 := rb_ HO445 hb; replace HO458 := rb_ HO458 hb; replace BK416 := bb_ BK416 hb; replace BK434 := bb_ BK434 hb; replace HB := bt_ HB hb; (try clear hb); (try clear ho0); obtain ⟨Ao63, co63, eo63⟩ := Kd.R_slice HO461.out; subst eo63) | ((refine gc_ 11 ?_); refine ge_ 86 Try.func11 #[.slice Ao63 t459.length co63, .slice Ao49 t424.length co49] ?_; (with_reducible refine (laws_eqFlowS.calls k _ _ t459 _ _ t424 true _ ?side1 ?side2 ?side3 ?side4 A28.out).mono ?_); (case side1 => exact ca_ (Kd.R_reads' HO461.out).2.2); (case side2 => exact (Kd.R_reads' HO461.out).2.1); (case side3 => exact ca_ (Kd.R_reads' HO426.out).2.2); (case side4 => exact (Kd.R_reads' HO426.out).2.1); rintro e w64 ⟨rfl, hb⟩; refine ⟨_, rfl, ?_⟩; replace HO423 := rb_ HO423 hb; replace HO426 := rb_ HO426 hb; replace HO433 := rb_ HO433 hb; replace HO437 := rb_ HO437 hb; replace HO445 := rb_ HO445 hb; replace HO458 := rb_ HO458 hb; replace HO461 := rb_ HO461 hb; replace BK416 := bb_ BK416 hb; replace BK434 := bb_ BK434 hb; replace HB := bt_ HB hb; (try clear hb)) | ((refine gc_ 15 ?_); refine goesL_ (some 95) rfl rfl Try.func15 (by kernel_rfl) rfl #[.slice Ao48 t451.length co48, .int .i64 1] rfl (by (try simp only [List.map_toArray, List.map_cons, List.map_nil]); first | done | (rw [show t451.length = t435.length from (Kd.R_reads' HO437.out).1.symm] <;> rfl) | rfl | (simp only [List.length_drop, List.length_take]; rfl)) ?_; (with_reducible refine (laws_heldFlowS.calls k _ _ t451 1 t464 _ ?side1 ?side2 A31.out).mono ?_); (case side1 => exact ca_ (Kd.R_reads' HO437.out).2.2); (case side2 => rw [show t451.length = t435.length from (Kd.R_reads' HO437.out).1.symm]; exact (Kd.R_reads' HO437.out).2.1); rintro e w' ⟨rfl, ⟨nd, rfl⟩⟩; refine ⟨_, rfl, ?_⟩))
 go_ret
 exact ⟨es_, (bw_ HB).out⟩
def laws_FnExactFlowOf.Pure : Prop := ∀ (a0 a1_0 a1_1 a1_2 : Int) (l1_3 : List (S103)), (Lit.int .i64 a0).wf = true → (Lit.int .i64 a1_0).wf = true → (Lit.int .i64 a1_1).wf = true → (Lit.int .i64 a1_2).wf = true → l1_3.length ≤ maxLen → (∀ z ∈ l1_3, wfS103 z) → ∃ k, laws_FnExactFlowOf.f k a0 a1_0 a1_1 a1_2 l1_3 = some true
end Go.Proofs.Ytdfcoebadjhjlaa.QF
