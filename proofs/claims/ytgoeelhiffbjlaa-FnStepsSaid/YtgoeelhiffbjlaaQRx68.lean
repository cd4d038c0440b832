import Derived.Test.YtgoeelhiffbjlaaQRx8
import Derived.Test.YtgoeelhiffbjlaaQRx11
import Derived.Test.YtgoeelhiffbjlaaQRx50
namespace Go.Proofs.Ytgoeelhiffbjlaa.QR
set_option maxHeartbeats 8000000
set_option maxRecDepth 100000
open Go.RowKit Go.Proofs.YtgoeelhiffbjlaaW.PrintWords Go.Proofs.YtgoeelhiffbjlaaW.PrintLast Go.Proofs.YtgoeelhiffbjlaaW.PrintMore
attribute [local go_sem] isSome_setCell max2_int min2_int max_two min_two max_three min_three max_four min_four
set_option linter.unusedVariables false
set_option linter.unusedSimpArgs false

/-! ### spec_l02Valuation: function 188 -/
def spec_l02Valuation.f (k : Nat) (a0 : Int) (a1_0 : Int) (a1_1 : Int) (a1_2 : Int) (a2_0 : Int) (a2_1 : Int) (a2_2 : Int) : Option (Int × Bool) := (spec_l01Power.f k a0 (wrap64 ((mx a1_2 a2_2) - a1_2))).bind fun t609 => ((spec_l01Power.f k a0 (wrap64 ((mx a1_2 a2_2) - a2_2))).bind fun t610 => (if (wrap64 ((wrap64 (a1_1 * t609)) - (wrap64 (a2_1 * t610)))) = 0 then (some (0, false)) else ((spec_l01Val.f k a0 (wrap64 ((wrap64 (a1_1 * t609)) - (wrap64 (a2_1 * t610))))).bind fun t611 => (some (wrap64 (t611 - (mx a1_2 a2_2)), true)))))
theorem spec_l02Valuation.calls (k : Nat) (a0 : Int) (a1_0 : Int) (a1_1 : Int) (a1_2 : Int) (a2_0 : Int) (a2_1 : Int) (a2_2 : Int) (r1 : Int) (r2 : Bool) (w : World) (h : spec_l02Valuation.f k a0 a1_0 a1_1 a1_2 a2_0 a2_1 a2_2 = some (r1, r2)) :
  Calls Try.prog 188 #[.int .i64 a0, .agg #[.int .i64 a1_0, .int .i64 a1_1, .int .i64 a1_2], .agg #[.int .i64 a2_0, .int .i64 a2_1, .int .i64 a2_2]] w fun e w' => e = .returned (.tuple #[.int .i64 r1, .bool r2]) ∧ Below w.heap.size w w' := by
 have hu25 := Try.underlying25
 have HB := Aside0.mk (Below.refl w.heap.size w)
 have H : ((spec_l01Power.f k a0 (wrap64 ((mx a1_2 a2_2) - a1_2))).bind fun t609 => ((spec_l01Power.f k a0 (wrap64 ((mx a1_2 a2_2) - a2_2))).bind fun t610 => (if (wrap64 ((wrap64 (a1_1 * t609)) - (wrap64 (a2_1 * t610)))) = 0 then (some (0, false)) else ((spec_l01Val.f k a0 (wrap64 ((wrap64 (a1_1 * t609)) - (wrap64 (a2_1 * t610))))).bind fun t611 => (some (wrap64 (t611 - (mx a1_2 a2_2)), true)))))) = some (r1, r2) := h
 clear h
 obtain ⟨ji4, hji4⟩ : ∃ j_ : Int, (mx a1_2 a2_2) = j_ := ⟨_, rfl⟩
 replace H : ((spec_l01Power.f k a0 (wrap64 ((ji4) - a1_2))).bind fun t609 => ((spec_l01Power.f k a0 (wrap64 ((ji4) - a2_2))).bind fun t610 => (if (wrap64 ((wrap64 (a1_1 * t609)) - (wrap64 (a2_1 * t610)))) = 0 then (some (0, false)) else ((spec_l01Val.f k a0 (wrap64 ((wrap64 (a1_1 * t609)) - (wrap64 (a2_1 * t610))))).bind fun t611 => (some (wrap64 (t611 - (ji4)), true)))))) = some (r1, r2) := by first | (rw [hji4] at H; exact H) | (simp only [hji4] at H ⊢; exact H)
 have hji4_ : (if a1_2 < a2_2 then a2_2 else a1_2) = ji4 := hji4
 replace H := ob_ H
 obtain ⟨t609, A50, H⟩ := H
 have A5 := Aside0.mk A50
 clear A50
 replace H := ob_ H
 obtain ⟨t610, A60, H⟩ := H
 have A6 := Aside0.mk A60
 clear A60
 by_cases c7 : (wrap64 ((wrap64 (a1_1 * t609)) - (wrap64 (a2_1 * t610)))) = 0
 ·rw [if_pos c7] at H
  have c7b0 : ((wrap64 ((wrap64 (a1_1 * t609)) - (wrap64 (a2_1 * t610)))) == 0) = true := beq_iff_eq.mpr c7
  have c7b1 : ((wrap64 ((wrap64 (a1_1 * t609)) - (wrap64 (a2_1 * t610)))) != 0) = false := bne_eq_false_iff_eq.mpr c7
  clear c7
  simp only [Option.some.injEq, Prod.mk.injEq] at H
  obtain ⟨rfl, rfl⟩ := H
  go_enter Try.func188, Try.ntmps188
  go_wp2_with (first | ((refine gd_ 4 ?_); refine bx_ 4 #[.int .i64 a1_0, .int .i64 a1_1, .int .i64 a1_2] 25 ?_; intro gb607 hg w8 BK607 hb; have GW607 := bs_ HB hg; have GE607 := bs_ HB hg; replace HB := bt_ HB hb; clear hb hg) | ((refine gd_ 5 ?_); refine bx_ 5 #[.int .i64 a2_0, .int .i64 a2_1, .int .i64 a2_2] 25 ?_; intro gb608 hg w9 BK608 hb; have GW608 := bs_ HB hg; have GE608 := bs_ HB hg; have NB607_608 := bm_ BK607 hg; have NB608_607 := bn_ BK607 hg; replace BK607 := bb_ BK607 hb; replace HB := bt_ HB hb; clear hb hg; have hnb10 := NB607_608.out; have hnc10 := NB608_607.out; obtain ⟨hcz11_0, hcz11_1, hcz11_2, hfz11_0, hfz11_1, hfz11_2⟩ := ch3_ BK607; obtain ⟨hcz12_0, hcz12_1, hcz12_2, hfz12_0, hfz12_1, hfz12_2⟩ := ch3_ BK608) | (go_at_call 169; (with_reducible refine (spec_l01Power.calls k a0 (wrap64 ((ji4) - a1_2)) t609 _ A5.out).mono ?_); rintro e w' ⟨rfl, ⟨nd, rfl⟩⟩; (try exact dd_)) | (go_at_call 169; (with_reducible refine (spec_l01Power.calls k a0 (wrap64 ((ji4) - a2_2)) t610 _ A6.out).mono ?_); rintro e w' ⟨rfl, ⟨nd, rfl⟩⟩; (try exact dd_)))
  repeat (go_quiet (first | ((refine gd_ 4 ?_); refine bx_ 4 #[.int .i64 a1_0, .int .i64 a1_1, .int .i64 a1_2] 25 ?_; intro gb607 hg w8 BK607 hb; have GW607 := bs_ HB hg; have GE607 := bs_ HB hg; replace HB := bt_ HB hb; clear hb hg) | ((refine gd_ 5 ?_); refine bx_ 5 #[.int .i64 a2_0, .int .i64 a2_1, .int .i64 a2_2] 25 ?_; intro gb608 hg w9 BK608 hb; have GW608 := bs_ HB hg; have GE608 := bs_ HB hg; have NB607_608 := bm_ BK607 hg; have NB608_607 := bn_ BK607 hg; replace BK607 := bb_ BK607 hb; replace HB := bt_ HB hb; clear hb hg; have hnb10 := NB607_608.out; have hnc10 := NB608_607.out; obtain ⟨hcz11_0, hcz11_1, hcz11_2, hfz11_0, hfz11_1, hfz11_2⟩ := ch3_ BK607; obtain ⟨hcz12_0, hcz12_1, hcz12_2, hfz12_0, hfz12_1, hfz12_2⟩ := ch3_ BK608) | (go_at_call 169; (with_reducible refine (spec_l01Power.calls k a0 (wrap64 ((ji4) - a1_2)) t609 _ A5.out).mono ?_); rintro e w' ⟨rfl, ⟨nd, rfl⟩⟩; (try exact dd_)) | (go_at_call 169; (with_reducible refine (spec_l01Power.calls k a0 (wrap64 ((ji4) - a2_2)) t610 _ A6.out).mono ?_); rintro e w' ⟨rfl, ⟨nd, rfl⟩⟩; (try exact dd_))); try go_wp2_with (first | ((refine gd_ 4 ?_); refine bx_ 4 #[.int .i64 a1_0, .int .i64 a1_1, .int .i64 a1_2] 25 ?_; intro gb607 hg w8 BK607 hb; have GW607 := bs_ HB hg; have GE607 := bs_ HB hg; replace HB := bt_ HB hb; clear hb hg) | ((refine gd_ 5 ?_); refine bx_ 5 #[.int .i64 a2_0, .int .i64 a2_1, .int .i64 a2_2] 25 ?_; intro gb608 hg w9 BK608 hb; have GW608 := bs_ HB hg; have GE608 := bs_ HB hg; have NB607_608 := bm_ BK607 hg; have NB608_607 := bn_ BK607 hg; replace BK607 := bb_ BK607 hb; replace HB := bt_ HB hb; clear hb hg; have hnb10 := NB607_608.out; have hnc10 := NB608_607.out; obtain ⟨hcz11_0, hcz11_1, hcz11_2, hfz11_0, hfz11_1, hfz11_2⟩ := ch3_ BK607; obtain ⟨hcz12_0, hcz12_1, hcz12_2, hfz12_0, hfz12_1, hfz12_2⟩ := ch3_ BK608) | (go_at_call 169; (with_reducible refine (spec_l01Power.calls k a0 (wrap64 ((ji4) - a1_2)) t609 _ A5.out).mono ?_); rintro e w' ⟨rfl, ⟨nd, rfl⟩⟩; (try exact dd_)) | (go_at_call 169; (with_reducible refine (spec_l01Power.calls k a0 (wrap64 ((ji4) - a2_2)) t610 _ A6.out).mono ?_); rintro e w' ⟨rfl, ⟨nd, rfl⟩⟩; (try exact dd_))))
  go_ret2
  exact ⟨by first | rfl | (simp [errW_none, errW_some] <;> rfl) | (simp only [← hji4]; first | rfl | (simp [errW_none, errW_some] <;> rfl)) | (simp [*, errW_none, errW_some] <;> rfl), (bw_ HB).out⟩
 ·rw [if_neg c7] at H
  have c7b0 : ((wrap64 ((wrap64 (a1_1 * t609)) - (wrap64 (a2_1 * t610)))) == 0) = false := beq_eq_false_iff_ne.mpr c7
  have c7b1 : ((wrap64 ((wrap64 (a1_1 * t609)) - (wrap64 (a2_1 * t610)))) != 0) = true := bne_iff_ne.mpr c7
  replace H := ob_ H
  obtain ⟨t611, A130, H⟩ := H
  have A13 := Aside0.mk A130
  clear A130
  simp only [Option.some.injEq, Prod.mk.injEq] at H
  obtain ⟨rfl, rfl⟩ := H
  go_enter Try.func188, Try.ntmps188
  go_wp2_with (first | ((refine gd_ 4 ?_); refine bx_ 4 #[.int .i64 a1_0, .int .i64 a1_1, .int .i64 a1_2] 25 ?_; intro gb607 hg w14 BK607 hb; have GW607 := bs_ HB hg; have GE607 := bs_ HB hg; replace HB := bt_ HB hb; clear hb hg) | ((refine gd_ 5 ?_); refine bx_ 5 #[.int .i64 a2_0, .int .i64 a2_1, .int .i64 a2_2] 25 ?_; intro gb608 hg w15 BK608 hb; have GW608 := bs_ HB hg; have GE608 := bs_ HB hg; have NB607_608 := bm_ BK607 hg; have NB608_607 := bn_ BK607 hg; replace BK607 := bb_ BK607 hb; replace HB := bt_ HB hb; clear hb hg; have hnb16 := NB607_608.out; have hnc16 := NB608_607.out; obtain ⟨hcz17_0, hcz17_1, hcz17_2, hfz17_0, hfz17_1, hfz17_2⟩ := ch3_ BK607; obtain ⟨hcz18_0, hcz18_1, hcz18_2, hfz18_0, hfz18_1, hfz18_2⟩ := ch3_ BK608) | (go_at_call 169; (with_reducible refine (spec_l01Power.calls k a0 (wrap64 ((ji4) - a1_2)) t609 _ A5.out).mono ?_); rintro e w' ⟨rfl, ⟨nd, rfl⟩⟩; (try exact dd_)) | (go_at_call 169; (with_reducible refine (spec_l01Power.calls k a0 (wrap64 ((ji4) - a2_2)) t610 _ A6.out).mono ?_); rintro e w' ⟨rfl, ⟨nd, rfl⟩⟩; (try exact dd_)) | (go_at_call 193; (with_reducible refine (spec_l01Val.calls k a0 (wrap64 ((wrap64 (a1_1 * t609)) - (wrap64 (a2_1 * t610)))) t611 _ A13.out).mono ?_); rintro e w' ⟨rfl, ⟨nd, rfl⟩⟩; (try exact dd_)))
  repeat (go_quiet (first | ((refine gd_ 4 ?_); refine bx_ 4 #[.int .i64 a1_0, .int .i64 a1_1, .int .i64 a1_2] 25 ?_; intro gb607 hg w14 BK607 hb; have GW607 := bs_ HB hg; have GE607 := bs_ HB hg; replace HB := bt_ HB hb; clear hb hg) | ((refine gd_ 5 ?_); refine bx_ 5 #[.int .i64 a2_0, .int .i64 a2_1, .int .i64 a2_2] 25 ?_; intro gb608 hg w15 BK608 hb; have GW608 := bs_ HB hg; have GE608 := bs_ HB hg; have NB607_608 := bm_ BK607 hg; have NB608_607 := bn_ BK607 hg; replace BK607 := bb_ BK607 hb; replace HB := bt_ HB hb; clear hb hg; have hnb16 := NB607_608.out; have hnc16 := NB608_607.out; obtain ⟨hcz17_0, hcz17_1, hcz17_2, hfz17_0, hfz17_1, hfz17_2⟩ := ch3_ BK607; obtain ⟨hcz18_0, hcz18_1, hcz18_2, hfz18_0, hfz18_1, hfz18_2⟩ := ch3_ BK608) | (go_at_call 169; (with_reducible refine (spec_l01Power.calls k a0 (wrap64 ((ji4) - a1_2)) t609 _ A5.out).mono ?_); rintro e w' ⟨rfl, ⟨nd, rfl⟩⟩; (try exact dd_)) | (go_at_call 169; (with_reducible refine (spec_l01Power.calls k a0 (wrap64 ((ji4) - a2_2)) t610 _ A6.out).mono ?_); rintro e w' ⟨rfl, ⟨nd, rfl⟩⟩; (try exact dd_)) | (go_at_call 193; (with_reducible refine (spec_l01Val.calls k a0 (wrap64 ((wrap64 (a1_1 * t609)) - (wrap64 (a2_1 * t610)))) t611 _ A13.out).mono ?_); rintro e w' ⟨rfl, ⟨nd, rfl⟩⟩; (try exact dd_))); try go_wp2_with (first | ((refine gd_ 4 ?_); refine bx_ 4 #[.int .i64 a1_0, .int .i64 a1_1, .int .i64 a1_2] 25 ?_; intro gb607 hg w14 BK607 hb; have GW607 := bs_ HB hg; have GE607 := bs_ HB hg; replace HB := bt_ HB hb; clear hb hg) | ((refine gd_ 5 ?_); refine bx_ 5 #[.int .i64 a2_0, .int .i64 a2_1, .int .i64 a2_2] 25 ?_; intro gb608 hg w15 BK608 hb; have GW608 := bs_ HB hg; have GE608 := bs_ HB hg; have NB607_608 := bm_ BK607 hg; have NB608_607 := bn_ BK607 hg; replace BK607 := bb_ BK607 hb; replace HB := bt_ HB hb; clear hb hg; have hnb16 := NB607_608.out; have hnc16 := NB608_607.out; obtain ⟨hcz17_0, hcz17_1, hcz17_2, hfz17_0, hfz17_1, hfz17_2⟩ := ch3_ BK607; obtain ⟨hcz18_0, hcz18_1, hcz18_2, hfz18_0, hfz18_1, hfz18_2⟩ := ch3_ BK608) | (go_at_call 169; (with_reducible refine (spec_l01Power.calls k a0 (wrap64 ((ji4) - a1_2)) t609 _ A5.out).mono ?_); rintro e w' ⟨rfl, ⟨nd, rfl⟩⟩; (try exact dd_)) | (go_at_call 169; (with_reducible refine (spec_l01Power.calls k a0 (wrap64 ((ji4) - a2_2)) t610 _ A6.out).mono ?_); rintro e w' ⟨rfl, ⟨nd, rfl⟩⟩; (try exact dd_)) | (go_at_call 193; (with_reducible refine (spec_l01Val.calls k a0 (wrap64 ((wrap64 (a1_1 * t609)) - (wrap64 (a2_1 * t610)))) t611 _ A13.out).mono ?_); rintro e w' ⟨rfl, ⟨nd, rfl⟩⟩; (try exact dd_))))
  go_ret2
  exact ⟨by first | rfl | (simp [errW_none, errW_some] <;> rfl) | (simp only [← hji4]; first | rfl | (simp [errW_none, errW_some] <;> rfl)) | (simp [*, errW_none, errW_some] <;> rfl), (bw_ HB).out⟩
/-! ### spec_l02Join: function 157 -/
def spec_l02Join.f (k : Nat) (a0 : Int) (a1_0 : Int) (a1_1 : Int) (a1_2 : Int) (a2_0 : Int) (a2_1 : Int) (a2_2 : Int) : Option (Int) := (spec_l02Valuation.f k a0 a1_0 a1_1 a1_2 a2_0 a2_1 a2_2).bind fun bt614 => (if bt614.2 = true then (some (mn (mn a1_0 a2_0) bt614.1)) else (some (mn a1_0 a2_0)))
theorem spec_l02Join.calls (k : Nat) (a0 : Int) (a1_0 : Int) (a1_1 : Int) (a1_2 : Int) (a2_0 : Int) (a2_1 : Int) (a2_2 : Int) (r : Int) (w : World) (h : spec_l02Join.f k a0 a1_0 a1_1 a1_2 a2_0 a2_1 a2_2 = some r) :
  Calls Try.prog 157 #[.int .i64 a0, .agg #[.int .i64 a1_0, .int .i64 a1_1, .int .i64 a1_2], .agg #[.int .i64 a2_0, .int .i64 a2_1, .int .i64 a2_2]] w fun e w' => e = .returned (.int .i64 r) ∧ Below w.heap.size w w' := by
 have hu25 := Try.underlying25
 have HB := Aside0.mk (Below.refl w.heap.size w)
 have H : ((spec_l02Valuation.f k a0 a1_0 a1_1 a1_2 a2_0 a2_1 a2_2).bind fun bt614 => (if bt614.2 = true then (some (mn (mn a1_0 a2_0) bt614.1)) else (some (mn a1_0 a2_0)))) = some r := h
 clear h
 obtain ⟨ji4, hji4⟩ : ∃ j_ : Int, (mn a1_0 a2_0) = j_ := ⟨_, rfl⟩
 replace H : ((spec_l02Valuation.f k a0 a1_0 a1_1 a1_2 a2_0 a2_1 a2_2).bind fun bt614 => (if bt614.2 = true then (some (mn (ji4) bt614.1)) else (some ji4))) = some r := by first | (rw [hji4] at H; exact H) | (simp only [hji4] at H ⊢; exact H)
 have hji4_ : (if a2_0 < a1_0 then a2_0 else a1_0) = ji4 := hji4
 replace H := ob_ H
 obtain ⟨⟨t614, t615⟩, A50, H⟩ := H
 have A5 := Aside0.mk A50
 clear A50
 by_cases c6 : t615 = true
 ·subst c6
  have H1 : (some (mn (ji4) t614)) = some r := by rw [if_pos rfl] at H; exact H
  clear H
  have H := H1
  clear H1
  obtain ⟨ji7, hji7⟩ : ∃ j_ : Int, (mn (ji4) t614) = j_ := ⟨_, rfl⟩
  replace H : (some ji7) = some r := by first | (rw [hji7] at H; exact H) | (simp only [hji7] at H ⊢; exact H)
  (try rw [hji7] at A5)
  have hji7_ : (if t614 < (ji4) then t614 else (ji4)) = ji7 := hji7
  obtain rfl := si_ H
  go_enter Try.func157, Try.ntmps157
  go_wp2_with (first | ((refine gd_ 4 ?_); refine bx_ 4 #[.int .i64 a1_0, .int .i64 a1_1, .int .i64 a1_2] 25 ?_; intro gb612 hg w8 BK612 hb; have GW612 := bs_ HB hg; have GE612 := bs_ HB hg; replace HB := bt_ HB hb; clear hb hg) | ((refine gd_ 5 ?_); refine bx_ 5 #[.int .i64 a2_0, .int .i64 a2_1, .int .i64 a2_2] 25 ?_; intro gb613 hg w9 BK613 hb; have GW613 := bs_ HB hg; have GE613 := bs_ HB hg; have NB612_613 := bm_ BK612 hg; have NB613_612 := bn_ BK612 hg; replace BK612 := bb_ BK612 hb; replace HB := bt_ HB hb; clear hb hg; have hnb10 := NB612_613.out; have hnc10 := NB613_612.out; obtain ⟨hcz11_0, hcz11_1, hcz11_2, hfz11_0, hfz11_1, hfz11_2⟩ := ch3_ BK612; obtain ⟨hcz12_0, hcz12_1, hcz12_2, hfz12_0, hfz12_1, hfz12_2⟩ := ch3_ BK613) | ((refine gc_ 188 ?_); refine ge_ 19 Try.func188 #[.int .i64 a0, .agg #[.int .i64 a1_0, .int .i64 a1_1, .int .i64 a1_2], .agg #[.int .i64 a2_0, .int .i64 a2_1, .int .i64 a2_2]] ?_; (with_reducible refine (spec_l02Valuation.calls k a0 a1_0 a1_1 a1_2 a2_0 a2_1 a2_2 t614 true _ A5.out).mono ?_); rintro e w13 ⟨rfl, hb⟩; refine ⟨_, rfl, ?_⟩; replace BK612 := bb_ BK612 hb; replace BK613 := bb_ BK613 hb; replace HB := bt_ HB hb; (try clear hb)))
  go_ret
  exact ⟨by first | rfl | (simp [errW_none, errW_some] <;> rfl) | (simp only [← hji4, ← hji7]; first | rfl | (simp [errW_none, errW_some] <;> rfl)) | (simp [*, errW_none, errW_some] <;> rfl), (bw_ HB).out⟩
 ·replace c6 := Bool.eq_false_iff.mpr c6
  subst c6
  have H1 : (some ji4) = some r := by rw [if_neg (show ¬ (false = true) by decide)] at H; exact H
  clear H
  have H := H1
  clear H1
  obtain rfl := si_ H
  go_enter Try.func157, Try.ntmps157
  go_wp2_with (first | ((refine gd_ 4 ?_); refine bx_ 4 #[.int .i64 a1_0, .int .i64 a1_1, .int .i64 a1_2] 25 ?_; intro gb612 hg w14 BK612 hb; have GW612 := bs_ HB hg; have GE612 := bs_ HB hg; replace HB := bt_ HB hb; clear hb hg) | ((refine gd_ 5 ?_); refine bx_ 5 #[.int .i64 a2_0, .int .i64 a2_1, .int .i64 a2_2] 25 ?_; intro gb613 hg w15 BK613 hb; have GW613 := bs_ HB hg; have GE613 := bs_ HB hg; have NB612_613 := bm_ BK612 hg; have NB613_612 := bn_ BK612 hg; replace BK612 := bb_ BK612 hb; replace HB := bt_ HB hb; clear hb hg; have hnb16 := NB612_613.out; have hnc16 := NB613_612.out; obtain ⟨hcz17_0, hcz17_1, hcz17_2, hfz17_0, hfz17_1, hfz17_2⟩ := ch3_ BK612; obtain ⟨hcz18_0, hcz18_1, hcz18_2, hfz18_0, hfz18_1, hfz18_2⟩ := ch3_ BK613) | ((refine gc_ 188 ?_); refine ge_ 19 Try.func188 #[.int .i64 a0, .agg #[.int .i64 a1_0, .int .i64 a1_1, .int .i64 a1_2], .agg #[.int .i64 a2_0, .int .i64 a2_1, .int .i64 a2_2]] ?_; (with_reducible refine (spec_l02Valuation.calls k a0 a1_0 a1_1 a1_2 a2_0 a2_1 a2_2 t614 false _ A5.out).mono ?_); rintro e w19 ⟨rfl, hb⟩; refine ⟨_, rfl, ?_⟩; replace BK612 := bb_ BK612 hb; replace BK613 := bb_ BK613 hb; replace HB := bt_ HB hb; (try clear hb)))
  go_ret
  exact ⟨by first | rfl | (simp [errW_none, errW_some] <;> rfl) | (simp only [← hji4]; first | rfl | (simp [errW_none, errW_some] <;> rfl)) | (simp [*, errW_none, errW_some] <;> rfl), (bw_ HB).out⟩
/-! ### spec_l02Up: function 158 -/
def spec_l02Up.f (k : Nat) (a0 : Int) (a1_0 : Int) (a1_1 : Int) (a1_2 : Int) (a2 : Int) : Option (Int × Int × Int × Bool) := (spec_l01Power.f k a0 a1_2).bind fun t618 => ((spec_l01Of.f k a0 a1_1 t618 a2).bind fun bt619 => (some (bt619.1, bt619.2.1, bt619.2.2.1, bt619.2.2.2)))
def spec_l02Up.T1 : Bool × List (List Nat × List Nat) := (true, [([], []), ([], []), ([1], [1]), ([], []), ([], []), ([4], [4]), ([3, 5], [3, 5]), ([], []), ([0, 2, 6, 7, 6], [0, 2, 6, 7]), ([8], [8]), ([8], [8]), ([9, 8, 0, 1, 2, 3, 4, 5, 6, 7, 8, 9, 10], [9]), ([10, 11, 0, 1, 2, 3, 4, 5, 6, 7, 8, 9, 10, 11], [10])])
def spec_l02Up.B1 : List Nat := [0, 0, 2, 0, 0, 16, 56, 0, 255, 511, 511, 2047, 4095]
theorem spec_l02Up.tab1 : rtab .any (opsOf Try.f158 1) = spec_l02Up.T1 := by kernel_rfl
theorem spec_l02Up.bits1 : waitsOk spec_l02Up.T1.2 spec_l02Up.B1 = true := by kernel_rfl
theorem spec_l02Up.calls (k : Nat) (a0 : Int) (a1_0 : Int) (a1_1 : Int) (a1_2 : Int) (a2 : Int) (r1 : Int) (r2 : Int) (r3 : Int) (r4 : Bool) (w : World) (h : spec_l02Up.f k a0 a1_0 a1_1 a1_2 a2 = some (r1, r2, r3, r4)) :
  Calls Try.prog 158 #[.int .i64 a0, .agg #[.int .i64 a1_0, .int .i64 a1_1, .int .i64 a1_2], .int .i64 a2] w fun e w' => e = .returned (.tuple #[.agg #[.int .i64 r1, .int .i64 r2, .int .i64 r3], .bool r4]) ∧ Below w.heap.size w w' := by
 have hu25 := Try.underlying25
 have HB := Aside0.mk (Below.refl w.heap.size w)
 have H : ((spec_l01Power.f k a0 a1_2).bind fun t618 => ((spec_l01Of.f k a0 a1_1 t618 a2).bind fun bt619 => (some (bt619.1, bt619.2.1, bt619.2.2.1, bt619.2.2.2)))) = some (r1, r2, r3, r4) := h
 clear h
 replace H := ob_ H
 obtain ⟨t618, A40, H⟩ := H
 have A4 := Aside0.mk A40
 clear A40
 replace H := ob_ H
 obtain ⟨⟨t619, t620, t621, t622⟩, A50, H⟩ := H
 have A5 := Aside0.mk A50
 clear A50
 simp only [Option.some.injEq, Prod.mk.injEq] at H
 obtain ⟨rfl, rfl, rfl, rfl⟩ := H
 go_enter Try.func158, Try.ntmps158
 try go_wp2_with (first | ((refine gd_ 4 ?_); refine bx_ 4 #[.int .i64 a1_0, .int .i64 a1_1, .int .i64 a1_2] 25 ?_; intro gb616 hg w6 BK616 hb; have GW616 := bs_ HB hg; have GE616 := bs_ HB hg; replace HB := bt_ HB hb; clear hb hg) | ((refine gd_ 6 ?_); refine bx_ 6 #[.int .i64 0, .int .i64 0, .int .i64 0] 25 ?_; intro gb617 hg w7 BK617 hb; have GW617 := bs_ HB hg; have GE617 := bs_ HB hg; have NB616_617 := bm_ BK616 hg; have NB617_616 := bn_ BK616 hg; replace BK616 := bb_ BK616 hb; replace HB := bt_ HB hb; clear hb hg))
 replace BK616 := Aside0.mk (blk_drew BK616.out)
 replace BK617 := Aside0.mk (blk_drew BK617.out)
 replace HB := Aside0.mk (below_drew1 HB.out)
 refine start_ (n := 13) (S := fun w' => w'.cell? ⟨gb616, 0, none⟩ = some (.int .i64 a1_0) ∧ w'.cell? ⟨gb616, 1, none⟩ = some (.int .i64 a1_1) ∧ w'.cell? ⟨gb616, 2, none⟩ = some (.int .i64 a1_2)) (ds := []) (bv_ 13 0) (by kernel_rfl) rfl rfl ⟨cz_ BK616 0, cz_ BK616 1, cz_ BK616 2⟩ (fun hHeld => ?_); refine with_tabW spec_l02Up.tab1 spec_l02Up.bits1 (fun HT_ HW_ => ?_)
 generalize w7.drew = w8 at BK616 BK617 HB hHeld ⊢
 refine px_ HT_ 0 8 1 ?_
 refine px_ HT_ 1 9 3 ?_
 refine px_ HT_ 3 11 11 ?_
 refine px_ HT_ 4 12 27 ?_
 refine px_ HT_ 7 15 155 ?_
 refine ta_ HT_ HW_ 2 (some 10) (bv_ 13 159) hHeld ?_ (hy := by rintro w' ⟨s0, s1, s2⟩; go_simp; with_reducible rfl)
 refine ta_ HT_ HW_ 5 (some 13) (bv_ 13 191) hHeld ?_ (hy := by rintro w' ⟨s0, s1, s2⟩; go_simp; with_reducible rfl)
 refine on_ HT_ 6 (some 14) (bv_ 13 255) (fun K hK => ?_)
 refine gs_ Try.func169 #[.int .i64 a0, .int .i64 a1_2] ?_
 with_reducible refine (spec_l01Power.calls k a0 a1_2 t618 _ A4.out).mono ?_
 rintro e w' ⟨rfl, ⟨nd, rfl⟩⟩
 refine ⟨_, rfl, ?_⟩
 refine hK.out _ _ ⟨cz_ BK616 0, cz_ BK616 1, cz_ BK616 2⟩ (fun hHeld => ?_)
 clear hK K
 refine nm_ (some 14) ?_
 refine on_ HT_ 8 (some 16) (bv_ 13 511) (fun K hK => ?_)
 refine gs_ Try.func170 #[.int .i64 a0, .int .i64 a1_1, .int .i64 t618, .int .i64 a2] ?_
 with_reducible refine (spec_l01Of.calls k a0 a1_1 t618 a2 t619 t620 t621 t622 _ A5.out).mono ?_
 rintro e w9 ⟨rfl, hb⟩
 refine ⟨_, rfl, ?_⟩
 replace BK616 := bb_ BK616 hb
 replace BK617 := bb_ BK617 hb
 replace HB := bt_ HB hb
 (try clear hb)
 (try clear hb2)
 (try clear hk)
 (try clear hi)
 refine hK.out _ _ ⟨cz_ BK616 0, cz_ BK616 1, cz_ BK616 2⟩ (fun hHeld => ?_)
 clear hK K
 refine nm_ (some 16) ?_
 refine px_ HT_ 9 17 1023 ?_
 refine px_ HT_ 10 18 2047 ?_
 refine on_ HT_ 11 none (bv_ 13 4095) (fun K hK => ?_)
 have hs10 : w9.cell? ⟨gb617, 0, none⟩ = some (.int .i64 0) := (blk_cell BK617.out 0).trans rfl
 have hfs10 := blk_frozen BK617.out 0
 have hns10_0 := NB616_617.out
 have hms10_0 := NB617_616.out
 have hs11 : w9.cell? ⟨gb617, 1, none⟩ = some (.int .i64 0) := (blk_cell BK617.out 1).trans rfl
 have hfs11 := blk_frozen BK617.out 1
 have hns11_0 := NB616_617.out
 have hms11_0 := NB617_616.out
 have hs12 : w9.cell? ⟨gb617, 2, none⟩ = some (.int .i64 0) := (blk_cell BK617.out 2).trans rfl
 have hfs12 := blk_frozen BK617.out 2
 have hns12_0 := NB616_617.out
 have hms12_0 := NB617_616.out
 refine skip_ (w1 := ?_) (by rfl) rfl ?_ ?_
 rotate_left
 ·go_simp
  rfl
 refine hK.out _ _ ⟨(cg_ NB616_617 ((cg_ NB616_617 ((cg_ NB616_617 (hHeld.1)))))), (cg_ NB616_617 ((cg_ NB616_617 ((cg_ NB616_617 (hHeld.2.1)))))), (cg_ NB616_617 ((cg_ NB616_617 ((cg_ NB616_617 (hHeld.2.2))))))⟩ (fun hHeld => ?_)
 clear hK K
 refine px_ HT_ 12 7 8191 ?_
 refine done_ (done_of HT_.out (by kernel_rfl)) ?_
 try go_wp2
 refine bodyPost_ret (results_ct rfl _ _ gb617 25 #[.int .i64 t619, .int .i64 t620, .int .i64 t621] (0, 0) _ rfl (bp_ BK617).out Try.underlying25 rfl (by kernel_rfl)) rfl ?_
 exact ⟨es_, (bw_ HB).out⟩
/-! ### spec_l10Way: function 89 -/
mutual
def spec_l10Way.l0 : Nat → Int → Int → List Int → Int → Int → Int → Int → Option (ByteArray × Bool)
 | 0, _, _, _, _, _, _, _ => none
 | k + 1, x0, x8, x9, x10, x625000, x625001, x625002 => if x10 > x8 then (if x9.length < 140737488355328 then (spec_l10Way.l0 k x0 x8 (x9 ++ [117]) (wrap64 (x10 - 1)) x625000 x625001 x625002) else (none)) else (spec_l10Way.l1 k x0 x9 (wrap64 (x8 + 1)) x625000 x625001 x625002)
def spec_l10Way.l1 : Nat → Int → List Int → Int → Int → Int → Int → Option (ByteArray × Bool)
 | 0, _, _, _, _, _, _ => none
 | k + 1, x0, x9, x11, x625000, x625001, x625002 => if x11 ≤ x625000 then ((spec_l02Up.f k x0 x625000 x625001 x625002 x11).bind fun bt632 => (if bt632.2.2.2 = true then ((spec_l10Digit.f k x0 bt632.1 bt632.2.1 bt632.2.2.1).bind fun t637 => (if x9.length < 140737488355328 then (spec_l10Way.l1 k x0 (x9 ++ [(wrap64 (48 + t637)) % 256]) (wrap64 (x11 + 1)) x625000 x625001 x625002) else (none))) else (some ((⟨#[]⟩ : ByteArray), false)))) else (some (strOfNums x9, true))
end
def spec_l10Way.f (k : Nat) (a0 : Int) (a1_0 : Int) (a1_1 : Int) (a1_2 : Int) (a2_0 : Int) (a2_1 : Int) (a2_2 : Int) : Option (ByteArray × Bool) := (spec_l02Join.f k a0 a1_0 a1_1 a1_2 a2_0 a2_1 a2_2).bind fun t625 => (spec_l10Way.l0 k a0 t625 (([] : List Int)) a1_0 a2_0 a2_1 a2_2)
theorem spec_l10Way.calls (k : Nat) (a0 : Int) (a1_0 : Int) (a1_1 : Int) (a1_2 : Int) (a2_0 : Int) (a2_1 : Int) (a2_2 : Int) (r1 : ByteArray) (r2 : Bool) (w : World) (h : spec_l10Way.f k a0 a1_0 a1_1 a1_2 a2_0 a2_1 a2_2 = some (r1, r2)) :
  Calls Try.prog 89 #[.int .i64 a0, .agg #[.int .i64 a1_0, .int .i64 a1_1, .int .i64 a1_2], .agg #[.int .i64 a2_0, .int .i64 a2_1, .int .i64 a2_2]] w fun e w' => e = .returned (.tuple #[.string r1, .bool r2]) ∧ Below w.heap.size w w' := by
 have hu25 := Try.underlying25
 have HB := Aside0.mk (Below.refl w.heap.size w)
 have H : ((spec_l02Join.f k a0 a1_0 a1_1 a1_2 a2_0 a2_1 a2_2).bind fun t625 => (spec_l10Way.l0 k a0 t625 (([] : List Int)) a1_0 a2_0 a2_1 a2_2)) = some (r1, r2) := h
 clear h
 replace H := ob_ H
 obtain ⟨t625, A40, H⟩ := H
 have A4 := Aside0.mk A40
 clear A40
 obtain ⟨y626, hy626⟩ : ∃ y_ : List Int, y_ = (([] : List Int)) := ⟨_, rfl⟩
 replace H : (spec_l10Way.l0 k a0 t625 y626 a1_0 a2_0 a2_1 a2_2) = some (r1, r2) := by first | (rw [hy626]; with_reducible exact H) | (have H2_ := (Option.bind_some _ _).symm.trans H; rw [hy626]; with_reducible exact H2_) | (have H2_ := (Option.bind_some _ _).symm.trans H; with_reducible exact H2_) | with_reducible exact H | (rw [hy626]; exact H) | exact H
 have Ny626 := Aside0.mk hy626
 clear hy626
 have H' := Aside0.mk H
 clear H
 go_enter Try.func89, Try.ntmps89
 go_wp2_with (first | ((refine gd_ 4 ?_); refine bx_ 4 #[.int .i64 a1_0, .int .i64 a1_1, .int .i64 a1_2] 25 ?_; intro gb623 hg w5 BK623 hb; have GW623 := bs_ HB hg; have GE623 := bs_ HB hg; replace HB := bt_ HB hb; clear hb hg) | ((refine gd_ 5 ?_); refine bx_ 5 #[.int .i64 a2_0, .int .i64 a2_1, .int .i64 a2_2] 25 ?_; intro gb624 hg w6 BK624 hb; have GW624 := bs_ HB hg; have GE624 := bs_ HB hg; have NB623_624 := bm_ BK623 hg; have NB624_623 := bn_ BK623 hg; replace BK623 := bb_ BK623 hb; replace HB := bt_ HB hb; clear hb hg; have hnb7 := NB623_624.out; have hnc7 := NB624_623.out; obtain ⟨hcz8_0, hcz8_1, hcz8_2, hfz8_0, hfz8_1, hfz8_2⟩ := ch3_ BK623; obtain ⟨hcz9_0, hcz9_1, hcz9_2, hfz9_0, hfz9_1, hfz9_2⟩ := ch3_ BK624) | ((refine gc_ 157 ?_); refine ge_ 17 Try.func157 #[.int .i64 a0, .agg #[.int .i64 a1_0, .int .i64 a1_1, .int .i64 a1_2], .agg #[.int .i64 a2_0, .int .i64 a2_1, .int .i64 a2_2]] ?_; (with_reducible refine (spec_l02Join.calls k a0 a1_0 a1_1 a1_2 a2_0 a2_1 a2_2 t625 _ A4.out).mono ?_); rintro e w10 ⟨rfl, hb⟩; refine ⟨_, rfl, ?_⟩; replace BK623 := bb_ BK623 hb; replace BK624 := bb_ BK624 hb; replace HB := bt_ HB hb; (try clear hb)) | ((refine gd_ 18 ?_); refine Kd.R_lit (Kd.int .u8) _ 5 ?hg (N := 18) ?hd (xs := ([] : List Int)) (inner := []) (ok := fun _ => True) (okp := fun _ => True) ?hr ?hp (fun _ hk => hk) trivial (Below.refl _ _) (Nat.le_refl _) (by simp) ?_; (case hd => rfl); (case hg => rfl); (case hr => first | (go_simp; done) | (go_simp; rfl)); (case hp => exact (Reps.none _ _)); intro v627 w11 ho12 hb hg_ hnew_; clear hg_ hnew_; (first | rw [← Ny626.out] at ho12 | (simp only [Int.reduceToNat] at ho12; rw [← Ny626.out] at ho12)); have HO628 := Aside0.mk (Kd.R_lower ho12 (below_size (bw_ HB).out)); replace BK623 := bb_ BK623 hb; replace BK624 := bb_ BK624 hb; replace HB := bt_ HB hb; clear hb ho12; obtain ⟨hcz13_0, hcz13_1, hcz13_2, hfz13_0, hfz13_1, hfz13_2⟩ := ch3_ BK623))
 go_loopg [9, 10] k (fun kq v9 v10 w' => ∃ (x9_1 : List Int) (x10_1 : Int), v10 = .int .i64 x10_1 ∧ Aside0 (spec_l10Way.l0 kq a0 t625 x9_1 x10_1 a2_0 a2_1 a2_2 = some (r1, r2)) ∧ Aside0 (kq ≤ k) ∧ Aside0 (Kd.R (Kd.int .u8) 5 w' w.heap.size (fun _ => True) v9 x9_1) ∧ Aside0 (w'.heap[gb623]? = some (.cells #[.int .i64 a1_0, .int .i64 a1_1, .int .i64 a1_2] 25 (0, 0))) ∧ Aside0 (w'.heap[gb624]? = some (.cells #[.int .i64 a2_0, .int .i64 a2_1, .int .i64 a2_2] 25 (0, 0))) ∧ Aside0 (Below w.heap.size w w'))
 case atStart => exact ⟨(y626), (a1_0), en_, H', ⟨Nat.le_refl _⟩, ⟨by (with_reducible repeat (first | apply Kd.R_alloc | apply Kd.R_drewN | apply Kd.R_drew)); exact HO628.out⟩, bl_ BK623, bl_ BK624, bw_ HB⟩
 case round =>
  clear H'
  try clear c1
  try clear p2
  try clear c7
  try clear c8
  try clear hcz13_0 hcz13_1 hcz13_2
  try clear hcz8_0 hcz8_1 hcz8_2
  try clear hcz9_0 hcz9_1 hcz9_2
  try clear hfz13_0 hfz13_1 hfz13_2
  try clear hfz8_0 hfz8_1 hfz8_2
  try clear hfz9_0 hfz9_1 hfz9_2
  obtain ⟨x9_1, x10_1, rfl, HA, HK1, HO_9, BK623, BK624, HB⟩ := hrel
  cases gk with
  | zero => exact absurd HA.out (by simp [spec_l10Way.l0])
  | succ k1 =>
   have H := HA.out
   clear HA
   simp only [spec_l10Way.l0] at H
   by_cases c14 : x10_1 > t625
   ·rw [if_pos c14] at H
    have c14b0 : decide (t625 < x10_1) = true := decide_eq_true c14
    clear c14
    by_cases c15 : x9_1.length < 140737488355328
    ·rw [if_pos c15] at H
     have LMc15 := Aside0.mk c15
     clear c15
     obtain ⟨y629, hy629⟩ : ∃ y_ : List Int, y_ = (x9_1 ++ [117]) := ⟨_, rfl⟩
     replace H : (spec_l10Way.l0 k1 a0 t625 y629 (wrap64 (x10_1 - 1)) a2_0 a2_1 a2_2) = some (r1, r2) := by first | (rw [hy629]; with_reducible exact H) | (have H2_ := (Option.bind_some _ _).symm.trans H; rw [hy629]; with_reducible exact H2_) | (have H2_ := (Option.bind_some _ _).symm.trans H; with_reducible exact H2_) | with_reducible exact H | (rw [hy629]; exact H) | exact H
     have Ny629 := Aside0.mk hy629
     clear hy629
     have H' := Aside0.mk H
     clear H
     go_wp2_with (first | ((with_reducible refine gate_builtin (b := .append) (xs := #[.tmp 26, .tmp 27]) rfl ?_); at_builtin; refine Kd.R_append (Kd.int .u8) (w0 := w) w.heap.size rfl (.tmp 26) (.tmp 27) 22 5 (.int .u8 0) 1 rfl Try.underlying22 info5 rfl (by decide) (by omega) u9 x9_1 117 [.int .u8 117] (fun _ => True) (fun _ => False) rfl rfl ?aP (fun _ hk => hk.elim) ?aF ?aO ?aB ?aS ?aL ?_; (case aP => exact rfl); (case aB => exact (bw_ HB).out); (case aF => exact (fun _ _ => trivial)); (case aO => exact (ra_ HO_9.out)); (case aS => exact (below_size (bw_ HB).out)); (case aL => have := LMc15.out; omega); intro v630 w16 ho hb hg hat; rw [← Ny629.out] at ho; have n0_ := Aside0.mk (blk_grown (g := gb623) (o := .cells #[.int .i64 a1_0, .int .i64 a1_1, .int .i64 a1_2] 25 (0, 0)) (bl_ BK623).out hg (Kd.R_ne HO_9.out BK623.out (by decide))); have n1_ := Aside0.mk (blk_grown (g := gb624) (o := .cells #[.int .i64 a2_0, .int .i64 a2_1, .int .i64 a2_2] 25 (0, 0)) (bl_ BK624).out hg (Kd.R_ne HO_9.out BK624.out (by decide))); have n2_ := Aside0.mk (hb); have n3_ := Aside0.mk (ho); clear BK623; clear BK624; clear HB; clear HO_9; have BK623 := n0_; have BK624 := n1_; have HB := n2_; have HO631 := n3_; clear n0_ n1_ n2_ n3_; clear ho hb hg hat))
     go_roundg k1
     case measure => have := HK1.out; omega
     case rel => exact ⟨(y629), (wrap64 (x10_1 - 1)), en_, H', ⟨by have := HK1.out; omega⟩, ⟨by (with_reducible repeat (first | apply Kd.R_alloc | apply Kd.R_drewN | apply Kd.R_drew)); exact HO631.out⟩, bl_ BK623, bl_ BK624, bw_ HB⟩
    ·rw [if_neg c15] at H
     exact absurd H (by simp)
   ·rw [if_neg c14] at H
    have c14b0 : decide (t625 < x10_1) = false := decide_eq_false c14
    clear c14
    have H' := Aside0.mk H
    clear H
    go_wp2
    go_loopg [9, 11] k1 (fun kq v9 v11 w' => ∃ (x9_2 : List Int) (x11_2 : Int), v11 = .int .i64 x11_2 ∧ Aside0 (spec_l10Way.l1 kq a0 x9_2 x11_2 a2_0 a2_1 a2_2 = some (r1, r2)) ∧ Aside0 (kq ≤ k1) ∧ Aside0 (Kd.R (Kd.int .u8) 5 w' w.heap.size (fun _ => True) v9 x9_2) ∧ Aside0 (w'.heap[gb623]? = some (.cells #[.int .i64 a1_0, .int .i64 a1_1, .int .i64 a1_2] 25 (0, 0))) ∧ Aside0 (w'.heap[gb624]? = some (.cells #[.int .i64 a2_0, .int .i64 a2_1, .int .i64 a2_2] 25 (0, 0))) ∧ Aside0 (Below w.heap.size w w'))
    case atStart => exact ⟨(x9_1), (wrap64 (t625 + 1)), en_, H', ⟨Nat.le_refl _⟩, ⟨by (with_reducible repeat (first | apply Kd.R_alloc | apply Kd.R_drewN | apply Kd.R_drew)); exact HO_9.out⟩, bl_ BK623, bl_ BK624, bw_ HB⟩
    case round =>
     clear H'
     try clear c1
     try clear p2
     try clear p6
     try clear c7
     try clear c8
     try clear c14
     try clear c14b0
     try clear c15
     try clear hcz13_0 hcz13_1 hcz13_2
     try clear hcz8_0 hcz8_1 hcz8_2
     try clear hcz9_0 hcz9_1 hcz9_2
     try clear hfz13_0 hfz13_1 hfz13_2
     try clear hfz8_0 hfz8_1 hfz8_2
     try clear hfz9_0 hfz9_1 hfz9_2
     try clear p2
     obtain ⟨x9_2, x11_2, rfl, HA, HK2, HO_9, BK623, BK624, HB⟩ := hrel
     cases gk with
     | zero => exact absurd HA.out (by simp [spec_l10Way.l1])
     | succ k2 =>
      have H := HA.out
      clear HA
      simp only [spec_l10Way.l1] at H
      by_cases c17 : x11_2 ≤ a2_0
      ·rw [if_pos c17] at H
       have c17b0 : decide (x11_2 ≤ a2_0) = true := decide_eq_true c17
       clear c17
       replace H := ob_ H
       obtain ⟨⟨t632, t633, t634, t635⟩, A180, H⟩ := H
       have A18 := Aside0.mk A180
       clear A180
       by_cases c19 : t635 = true
       ·subst c19
        have H1 : ((spec_l10Digit.f k2 a0 t632 t633 t634).bind fun t637 => (if x9_2.length < 140737488355328 then (spec_l10Way.l1 k2 a0 (x9_2 ++ [(wrap64 (48 + t637)) % 256]) (wrap64 (x11_2 + 1)) a2_0 a2_1 a2_2) else (none))) = some (r1, r2) := by rw [if_pos rfl] at H; exact H
        clear H
        have H := H1
        clear H1
        replace H := ob_ H
        obtain ⟨t637, A200, H⟩ := H
        have A20 := Aside0.mk A200
        clear A200
        by_cases c21 : x9_2.length < 140737488355328
        ·rw [if_pos c21] at H
         have LMc21 := Aside0.mk c21
         clear c21
         obtain ⟨y638, hy638⟩ : ∃ y_ : List Int, y_ = (x9_2 ++ [(wrap64 (48 + t637)) % 256]) := ⟨_, rfl⟩
         replace H : (spec_l10Way.l1 k2 a0 y638 (wrap64 (x11_2 + 1)) a2_0 a2_1 a2_2) = some (r1, r2) := by first | (rw [hy638]; with_reducible exact H) | (have H2_ := (Option.bind_some _ _).symm.trans H; rw [hy638]; with_reducible exact H2_) | (have H2_ := (Option.bind_some _ _).symm.trans H; with_reducible exact H2_) | with_reducible exact H | (rw [hy638]; exact H) | exact H
         have Ny638 := Aside0.mk hy638
         clear hy638
         have H' := Aside0.mk H
         clear H
         have hnb22 := NB624_623.out
         have hnc22 := NB623_624.out
         obtain ⟨hcz23_0, hcz23_1, hcz23_2, hfz23_0, hfz23_1, hfz23_2⟩ := ch3_ BK624
         go_wp2_with (first | ((refine gc_ 158 ?_); refine ge_ 41 Try.func158 #[.int .i64 a0, .agg #[.int .i64 a2_0, .int .i64 a2_1, .int .i64 a2_2], .int .i64 x11_2] ?_; (with_reducible refine (spec_l02Up.calls k2 a0 a2_0 a2_1 a2_2 x11_2 t632 t633 t634 true _ A18.out).mono ?_); rintro e w24 ⟨rfl, hb⟩; refine ⟨_, rfl, ?_⟩; replace HO_9 := rb_ HO_9 hb; replace BK623 := bb_ BK623 hb; replace BK624 := bb_ BK624 hb; replace HB := bt_ HB hb; (try clear hb)) | ((refine gd_ 12 ?_); refine bx_ 12 #[.int .i64 0, .int .i64 0, .int .i64 0] 25 ?_; intro gb636 hg w25 BK636 hb; have GW636 := bs_ HB hg; have GE636 := bs_ HB hg; have NB623_636 := bm_ BK623 hg; have NB636_623 := bn_ BK623 hg; have NB624_636 := bm_ BK624 hg; have NB636_624 := bn_ BK624 hg; replace HO_9 := rb_ HO_9 hb; replace BK623 := bb_ BK623 hb; replace BK624 := bb_ BK624 hb; replace HB := bt_ HB hb; clear hb hg; have hnb26 := NB636_623.out; have hnc26 := NB623_636.out; have hnb27 := NB636_624.out; have hnc27 := NB624_636.out; obtain ⟨hcz28_0, hcz28_1, hcz28_2, hfz28_0, hfz28_1, hfz28_2⟩ := ch3_ BK636) | ((refine gc_ 84 ?_); refine ge_ 49 Try.func84 #[.int .i64 a0, .agg #[.int .i64 t632, .int .i64 t633, .int .i64 t634]] ?_; (with_reducible refine (spec_l10Digit.calls k2 a0 t632 t633 t634 t637 _ A20.out).mono ?_); rintro e w29 ⟨rfl, hb⟩; refine ⟨_, rfl, ?_⟩; replace HO_9 := Aside0.mk (Kd.R_below (ra_ (rs3_ HO_9.out BK636.out)) hb); replace BK623 := fb_ BK623 NB623_636 hb; replace BK624 := fb_ BK624 NB624_636 hb; replace BK636 := Aside0.mk (blk_below (g := gb636) (o := .cells #[.int .i64 t632, .int .i64 t633, .int .i64 t634] 25 (0, 0)) (bp_ BK636).out hb); replace HB := bt_ HB hb; (try clear hb)) | ((with_reducible refine gate_builtin (b := .append) (xs := #[.tmp 46, .tmp 52]) rfl ?_); at_builtin; refine Kd.R_append (Kd.int .u8) (w0 := w) w.heap.size rfl (.tmp 46) (.tmp 52) 22 5 (.int .u8 0) 1 rfl Try.underlying22 info5 rfl (by decide) (by omega) u9 x9_2 ((wrap64 (48 + t637)) % 256) [.int .u8 ((wrap64 (48 + t637)) % 256)] (fun _ => True) (fun _ => False) rfl rfl ?aP (fun _ hk => hk.elim) ?aF ?aO ?aB ?aS ?aL ?_; (case aP => exact rfl); (case aB => exact (bw_ HB).out); (case aF => exact (fun _ _ => trivial)); (case aO => exact (ra_ HO_9.out)); (case aS => exact (below_size (bw_ HB).out)); (case aL => have := LMc21.out; omega); intro v639 w30 ho hb hg hat; rw [← Ny638.out] at ho; have n0_ := Aside0.mk (blk_grown (g := gb623) (o := .cells #[.int .i64 a1_0, .int .i64 a1_1, .int .i64 a1_2] 25 (0, 0)) (bl_ BK623).out hg (Kd.R_ne HO_9.out BK623.out (by decide))); have n1_ := Aside0.mk (blk_grown (g := gb624) (o := .cells #[.int .i64 a2_0, .int .i64 a2_1, .int .i64 a2_2] 25 (0, 0)) (bl_ BK624).out hg (Kd.R_ne HO_9.out BK624.out (by decide))); have n2_ := Aside0.mk (blk_grown (g := gb636) (o := .cells #[.int .i64 t632, .int .i64 t633, .int .i64 t634] 25 (0, 0)) (bl_ BK636).out hg (Kd.R_ne HO_9.out BK636.out (by decide))); have n3_ := Aside0.mk (hb); have n4_ := Aside0.mk (ho); clear BK623; clear BK624; clear BK636; clear HB; clear HO_9; have BK623 := n0_; have BK624 := n1_; have BK636 := n2_; have HB := n3_; have HO640 := n4_; clear n0_ n1_ n2_ n3_ n4_; clear ho hb hg hat))
         go_roundg k2
         case measure => have := HK1.out; have := HK2.out; omega
         case rel => exact ⟨(y638), (wrap64 (x11_2 + 1)), en_, H', ⟨by have := HK1.out; have := HK2.out; omega⟩, ⟨by (with_reducible repeat (first | apply Kd.R_alloc | apply Kd.R_drewN | apply Kd.R_drew)); exact HO640.out⟩, bl_ BK623, bl_ BK624, bw_ HB⟩
        ·rw [if_neg c21] at H
         exact absurd H (by simp)
       ·replace c19 := Bool.eq_false_iff.mpr c19
        subst c19
        have H1 : (some ((⟨#[]⟩ : ByteArray), false)) = some (r1, r2) := by rw [if_neg (show ¬ (false = true) by decide)] at H; exact H
        clear H
        have H := H1
        clear H1
        simp only [Option.some.injEq, Prod.mk.injEq] at H
        obtain ⟨rfl, rfl⟩ := H
        have hnb31 := NB624_623.out
        have hnc31 := NB623_624.out
        obtain ⟨hcz32_0, hcz32_1, hcz32_2, hfz32_0, hfz32_1, hfz32_2⟩ := ch3_ BK624
        go_wp2_with (first | ((refine gc_ 158 ?_); refine ge_ 41 Try.func158 #[.int .i64 a0, .agg #[.int .i64 a2_0, .int .i64 a2_1, .int .i64 a2_2], .int .i64 x11_2] ?_; (with_reducible refine (spec_l02Up.calls k2 a0 a2_0 a2_1 a2_2 x11_2 t632 t633 t634 false _ A18.out).mono ?_); rintro e w33 ⟨rfl, hb⟩; refine ⟨_, rfl, ?_⟩; replace HO_9 := rb_ HO_9 hb; replace BK623 := bb_ BK623 hb; replace BK624 := bb_ BK624 hb; replace HB := bt_ HB hb; (try clear hb)) | ((refine gd_ 12 ?_); refine bx_ 12 #[.int .i64 0, .int .i64 0, .int .i64 0] 25 ?_; intro gb636 hg w34 BK636 hb; have GW636 := bs_ HB hg; have GE636 := bs_ HB hg; have NB623_636 := bm_ BK623 hg; have NB636_623 := bn_ BK623 hg; have NB624_636 := bm_ BK624 hg; have NB636_624 := bn_ BK624 hg; replace HO_9 := rb_ HO_9 hb; replace BK623 := bb_ BK623 hb; replace BK624 := bb_ BK624 hb; replace HB := bt_ HB hb; clear hb hg; have hnb35 := NB636_623.out; have hnc35 := NB623_636.out; have hnb36 := NB636_624.out; have hnc36 := NB624_636.out; obtain ⟨hcz37_0, hcz37_1, hcz37_2, hfz37_0, hfz37_1, hfz37_2⟩ := ch3_ BK636))
        go_ret2
        exact ⟨es_, (bw_ HB).out⟩
      ·rw [if_neg c17] at H
       have c17b0 : decide (x11_2 ≤ a2_0) = false := decide_eq_false c17
       clear c17
       simp only [Option.some.injEq, Prod.mk.injEq] at H
       obtain ⟨rfl, rfl⟩ := H
       have hnb38 := NB624_623.out
       have hnc38 := NB623_624.out
       obtain ⟨hcz39_0, hcz39_1, hcz39_2, hfz39_0, hfz39_1, hfz39_2⟩ := ch3_ BK624
       have hcv40 := own_string (P := Try.prog) Try.underlying22 Try.underlying5 Try.underlying9 (Kd.own_of_R HO_9.out)
       go_wp2
       go_ret2
       exact ⟨es_, (bw_ HB).out⟩
end Go.Proofs.Ytgoeelhiffbjlaa.QR
