import Derived.Test.YtgoeelhiffbjlaaQBx29
namespace Go.Proofs.Ytgoeelhiffbjlaa.QB
set_option maxHeartbeats 8000000
set_option maxRecDepth 100000
open Go.RowKit YtgoeelhiffbjlaaW.PrintWords YtgoeelhiffbjlaaW.PrintLast YtgoeelhiffbjlaaW.PrintMore
attribute [local go_sem] isSome_setCell max2_int min2_int max_two min_two max_three min_three max_four min_four
set_option linter.unusedVariables false
set_option linter.unusedSimpArgs false
def spec_l04Inverse.f (k : Nat) (a0_0 a0_1 a0_2 a0_3 : Int) : Option (Int × Int × Int × Int) := (spec_l04Reduce.f k a0_3 (wrap64 (-a0_1)) (wrap64 (-a0_2)) a0_0).bind fun bt224 => (some (bt224.1, bt224.2.1, bt224.2.2.1, bt224.2.2.2.1))
theorem spec_l04Inverse.calls (k : Nat) (a0_0 a0_1 a0_2 a0_3 r1 r2 r3 r4 : Int) (w : World) (h : spec_l04Inverse.f k a0_0 a0_1 a0_2 a0_3 = some (r1, r2, r3, r4)) :
  Calls Try.prog 107 #[.agg #[.int .i64 a0_0, .int .i64 a0_1, .int .i64 a0_2, .int .i64 a0_3]] w fun e w' => e = .returned (.agg #[.int .i64 r1, .int .i64 r2, .int .i64 r3, .int .i64 r4]) ∧ Below w.heap.size w w' := by
 have hu46 := Try.underlying46
 have hu44 := Try.underlying44
 have HB := Aside0.mk (Below.refl w.heap.size w)
 unfold spec_l04Inverse.f at h
 have H := h
 clear h
 replace H := oc_ H
 obtain ⟨⟨t224, t225, t226, t227, t228⟩, A2, H⟩ := H
 simp only [Option.some.injEq, Prod.mk.injEq] at H
 obtain ⟨rfl, rfl, rfl, rfl⟩ := H
 go_enter Try.func107, Try.ntmps107
 go_wp2_with (first | ((refine gd_ 1 ?_); refine by_ 1 #[.int .i64 a0_0, .int .i64 a0_1, .int .i64 a0_2, .int .i64 a0_3] 46 HB ?_; intro gb222 hg w3 BK222 hb GW222 HB_; replace HB := HB_; clear hb hg) | ((refine gd_ 2 ?_); refine by_ 2 #[.int .i64 0, .int .i64 0, .int .i64 0, .int .i64 0] 46 HB ?_; intro gb223 hg w4 BK223 hb GW223 HB_; have NB222_223 := bm_ BK222 hg; have NB223_222 := bn_ BK222 hg; replace BK222 := bb_ BK222 hb; replace HB := HB_; clear hb hg; have hnb5 := NB222_223.out; have hnc5 := NB223_222.out; obtain ⟨hcz6_0, hcz6_1, hcz6_2, hcz6_3, hfz6_0, hfz6_1, hfz6_2, hfz6_3⟩ := ch4_ BK222) | ((refine gc_ 106 ?_); refine ge_ 23 Try.func106 #[.agg #[.int .i64 a0_3, .int .i64 (wrap64 (-a0_1)), .int .i64 (wrap64 (-a0_2)), .int .i64 a0_0]] ?_; (with_reducible refine (spec_l04Reduce.calls k a0_3 (wrap64 (-a0_1)) (wrap64 (-a0_2)) a0_0 t224 t225 t226 t227 t228 _ A2.out).mono ?_); rintro e w7 ⟨rfl, hb⟩; refine ⟨_, rfl, ?_⟩; replace BK222 := bb_ BK222 hb; replace BK223 := bb_ BK223 hb; replace HB := bt_ HB hb; (try clear hb)) | ((refine gd_ 3 ?_); refine by_ 3 #[.int .i64 0, .int .i64 0, .int .i64 0, .int .i64 0] 46 HB ?_; intro gb229 hg w8 BK229 hb GW229 HB_; have NB222_229 := bm_ BK222 hg; have NB229_222 := bn_ BK222 hg; have NB223_229 := bm_ BK223 hg; have NB229_223 := bn_ BK223 hg; replace BK222 := bb_ BK222 hb; replace BK223 := bb_ BK223 hb; replace HB := HB_; clear hb hg; have hnb9 := NB229_222.out; have hnc9 := NB222_229.out; have hnb10 := NB229_223.out; have hnc10 := NB223_229.out; obtain ⟨hcz11_0, hcz11_1, hcz11_2, hcz11_3, hfz11_0, hfz11_1, hfz11_2, hfz11_3⟩ := ch4_ BK229; obtain ⟨hcz12_0, hcz12_1, hcz12_2, hcz12_3, hfz12_0, hfz12_1, hfz12_2, hfz12_3⟩ := ch4_ BK223))
 refine bodyPost_ret (results_cell_row rfl _ _ gb223 46 #[.int .i64 t224, .int .i64 t225, .int .i64 t226, .int .i64 t227] (0, 0) _ rfl (bp_ BK223).out Try.underlying46 rfl (by kernel_rfl)) rfl ?_
 exact ⟨es_, (bw_ HB).out⟩
def spec_l09Letter.f (k : Nat) (l0 : List (S46)) (a1 : Int) : Option (Int × Int × Int × Int) := if a1 > 0 then (if 0 ≤ (wrap64 (a1 - 1)) then (if (wrap64 (a1 - 1)) < (l0.length : Int) then (some ((rd_T46 l0 (wrap64 (a1 - 1))).f0.f0, (rd_T46 l0 (wrap64 (a1 - 1))).f0.f1, (rd_T46 l0 (wrap64 (a1 - 1))).f1.f0, (rd_T46 l0 (wrap64 (a1 - 1))).f1.f1)) else (none)) else (none)) else (if 0 ≤ (wrap64 ((wrap64 (-a1)) - 1)) then (if (wrap64 ((wrap64 (-a1)) - 1)) < (l0.length : Int) then ((spec_l04Inverse.f k ((rd_T46 l0 (wrap64 ((wrap64 (-a1)) - 1))).f0.f0) ((rd_T46 l0 (wrap64 ((wrap64 (-a1)) - 1))).f0.f1) ((rd_T46 l0 (wrap64 ((wrap64 (-a1)) - 1))).f1.f0) ((rd_T46 l0 (wrap64 ((wrap64 (-a1)) - 1))).f1.f1)).bind fun bt233 => (some (bt233.1, bt233.2.1, bt233.2.2.1, bt233.2.2.2))) else (none)) else (none))
theorem spec_l09Letter.calls (k : Nat) (A0 : Option Addr) (c0 : Nat) (l0 : List (S46)) (a1 r1 r2 r3 r4 : Int) (w : World) (hr0 : Kd.C k46 w A0 l0.length l0) (hc0 : l0.length ≤ c0) (h : spec_l09Letter.f k l0 a1 = some (r1, r2, r3, r4)) :
  Calls Try.prog 137 #[.slice A0 l0.length c0, .int .i64 a1] w fun e w' => e = .returned (.agg #[.int .i64 r1, .int .i64 r2, .int .i64 r3, .int .i64 r4]) ∧ Below w.heap.size w w' := by
 have hu46 := Try.underlying46
 have HR0 := Aside0.mk hr0
 have HC0 := Aside0.mk hc0
 clear hr0 hc0
 have HB := Aside0.mk (Below.refl w.heap.size w)
 unfold spec_l09Letter.f at h
 have H := h
 clear h
 replace H := ig_ H
 rcases H with ⟨c3b0, H⟩ | ⟨c3b0, H⟩
 ·obtain ⟨ji4, hji4⟩ : ∃ j_ : Int, (wrap64 (a1 - 1)) = j_ := ⟨_, rfl⟩
  replace H : (if 0 ≤ (ji4) then (if (ji4) < (l0.length : Int) then (some ((rd_T46 l0 (ji4)).f0.f0, (rd_T46 l0 (ji4)).f0.f1, (rd_T46 l0 (ji4)).f1.f0, (rd_T46 l0 (ji4)).f1.f1)) else (none)) else (none)) = some (r1, r2, r3, r4) := by first | (rw [hji4] at H; exact H) | (simp only [hji4] at H ⊢; exact H)
  have hji4w : (IntKind.i64.wrap (a1 - 1)) = ji4 := (i64_w _).trans hji4
  replace H := imn_ H
  obtain ⟨c5b0, H⟩ := H
  replace H := iln_ H
  obtain ⟨c6b0, H⟩ := H
  simp only [Option.some.injEq, Prod.mk.injEq] at H
  obtain ⟨rfl, rfl, rfl, rfl⟩ := H
  go_enter Try.func137, Try.ntmps137
  go_wp2_with (first | ((refine gd_ 4 ?_); refine by_ 4 #[.int .i64 0, .int .i64 0, .int .i64 0, .int .i64 0] 46 HB ?_; intro gb230 hg w7 BK230 hb GW230 HB_; replace HB := HB_; clear hb hg; have p231 : 0 ≤ ((ji4) : Int) := od_; have q231 : (ji4) < (l0.length : Int) := od_; obtain ⟨ad231, e231, hx231_0, hx231_1, hx231_2, hx231_3⟩ := at_T46 HR0.out (ji4) p231 q231; cases e231; replace hx231_0 := clTr HB.out hx231_0; replace hx231_1 := clTr HB.out hx231_1; replace hx231_2 := clTr HB.out hx231_2; replace hx231_3 := clTr HB.out hx231_3; replace p231 := eq_true p231; replace q231 := eq_true q231; obtain ⟨hcz8_0, hcz8_1, hcz8_2, hcz8_3, hfz8_0, hfz8_1, hfz8_2, hfz8_3⟩ := ch4_ BK230))
  refine bodyPost_ret (results_cell_row rfl _ _ gb230 46 #[.int .i64 ((rd_T46 l0 (ji4)).f0.f0), .int .i64 ((rd_T46 l0 (ji4)).f0.f1), .int .i64 ((rd_T46 l0 (ji4)).f1.f0), .int .i64 ((rd_T46 l0 (ji4)).f1.f1)] (0, 0) _ rfl (bp_ BK230).out Try.underlying46 rfl (by kernel_rfl)) rfl ?_
  exact ⟨by first | rfl | (simp [errW_none, errW_some] <;> rfl) | (simp only [← hji4]; first | rfl | (simp [errW_none, errW_some] <;> rfl)) | (simp [*, errW_none, errW_some] <;> rfl), (bw_ HB).out⟩
 obtain ⟨ji9, hji9⟩ : ∃ j_ : Int, (wrap64 ((wrap64 (-a1)) - 1)) = j_ := ⟨_, rfl⟩
 replace H : (if 0 ≤ (ji9) then (if (ji9) < (l0.length : Int) then ((spec_l04Inverse.f k ((rd_T46 l0 (ji9)).f0.f0) ((rd_T46 l0 (ji9)).f0.f1) ((rd_T46 l0 (ji9)).f1.f0) ((rd_T46 l0 (ji9)).f1.f1)).bind fun bt233 => (some (bt233.1, bt233.2.1, bt233.2.2.1, bt233.2.2.2))) else (none)) else (none)) = some (r1, r2, r3, r4) := by first | (rw [hji9] at H; exact H) | (simp only [hji9] at H ⊢; exact H)
 have hji9w : (IntKind.i64.wrap ((wrap64 (-a1)) - 1)) = ji9 := (i64_w _).trans hji9
 replace H := imn_ H
 obtain ⟨c10b0, H⟩ := H
 replace H := iln_ H
 obtain ⟨c11b0, H⟩ := H
 replace H := oc_ H
 obtain ⟨⟨t233, t234, t235, t236⟩, A12, H⟩ := H
 simp only [Option.some.injEq, Prod.mk.injEq] at H
 obtain ⟨rfl, rfl, rfl, rfl⟩ := H
 go_enter Try.func137, Try.ntmps137
 go_wp2_with (first | ((refine gd_ 4 ?_); refine by_ 4 #[.int .i64 0, .int .i64 0, .int .i64 0, .int .i64 0] 46 HB ?_; intro gb230 hg w13 BK230 hb GW230 HB_; replace HB := HB_; clear hb hg; have p232 : 0 ≤ ((ji9) : Int) := od_; have q232 : (ji9) < (l0.length : Int) := od_; obtain ⟨ad232, e232, hx232_0, hx232_1, hx232_2, hx232_3⟩ := at_T46 HR0.out (ji9) p232 q232; cases e232; replace hx232_0 := clTr HB.out hx232_0; replace hx232_1 := clTr HB.out hx232_1; replace hx232_2 := clTr HB.out hx232_2; replace hx232_3 := clTr HB.out hx232_3; replace p232 := eq_true p232; replace q232 := eq_true q232) | ((refine gc_ 107 ?_); refine ge_ 18 Try.func107 #[.agg #[.int .i64 ((rd_T46 l0 (ji9)).f0.f0), .int .i64 ((rd_T46 l0 (ji9)).f0.f1), .int .i64 ((rd_T46 l0 (ji9)).f1.f0), .int .i64 ((rd_T46 l0 (ji9)).f1.f1)]] ?_ (hargs := by (try simp only [List.map_toArray, List.map_cons, List.map_nil]); first | done | (simp only [hji9]; rfl) | rfl | (simp only [List.length_drop, List.length_take]; rfl)); (with_reducible refine (spec_l04Inverse.calls k ((rd_T46 l0 (ji9)).f0.f0) ((rd_T46 l0 (ji9)).f0.f1) ((rd_T46 l0 (ji9)).f1.f0) ((rd_T46 l0 (ji9)).f1.f1) t233 t234 t235 t236 _ A12.out).mono ?_); rintro e w14 ⟨rfl, hb⟩; refine ⟨_, rfl, ?_⟩; replace BK230 := bb_ BK230 hb; replace HB := bt_ HB hb; (try clear hb); obtain ⟨hcz15_0, hcz15_1, hcz15_2, hcz15_3, hfz15_0, hfz15_1, hfz15_2, hfz15_3⟩ := ch4_ BK230))
 refine bodyPost_ret (results_cell_row rfl _ _ gb230 46 #[.int .i64 t233, .int .i64 t234, .int .i64 t235, .int .i64 t236] (0, 0) _ rfl (bp_ BK230).out Try.underlying46 rfl (by kernel_rfl)) rfl ?_
 exact ⟨by first | rfl | (simp [errW_none, errW_some] <;> rfl) | (simp only [← hji9]; first | rfl | (simp [errW_none, errW_some] <;> rfl)) | (simp [*, errW_none, errW_some] <;> rfl), (bw_ HB).out⟩
end Go.Proofs.Ytgoeelhiffbjlaa.QB
