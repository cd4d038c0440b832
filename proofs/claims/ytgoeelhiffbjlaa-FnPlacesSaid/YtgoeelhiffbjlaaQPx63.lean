import Derived.Test.YtgoeelhiffbjlaaQPx9
import Derived.Test.YtgoeelhiffbjlaaQPx20
namespace Go.Proofs.Ytgoeelhiffbjlaa.QP
set_option maxHeartbeats 8000000
set_option maxRecDepth 100000
open Go.RowKit Go.Proofs.YtgoeelhiffbjlaaW.PrintWords Go.Proofs.YtgoeelhiffbjlaaW.PrintLast Go.Proofs.YtgoeelhiffbjlaaW.PrintMore
attribute [local go_sem] isSome_setCell max2_int min2_int max_two min_two max_three min_three max_four min_four
set_option linter.unusedVariables false
set_option linter.unusedSimpArgs false

/-! ### spec_l02Valuation: function 188 -/
def spec_l02Valuation.f (k : Nat) (a0 a1_0 a1_1 a1_2 a2_0 a2_1 a2_2 : Int) : Option (Int × Bool) := (spec_l01Power.f k a0 (wrap64 ((mx a1_2 a2_2) - a1_2))).bind fun t573 => ((spec_l01Power.f k a0 (wrap64 ((mx a1_2 a2_2) - a2_2))).bind fun t574 => (if (wrap64 ((wrap64 (a1_1 * t573)) - (wrap64 (a2_1 * t574)))) = 0 then (some (0, false)) else ((spec_l01Val.f k a0 (wrap64 ((wrap64 (a1_1 * t573)) - (wrap64 (a2_1 * t574))))).bind fun t575 => (some (wrap64 (t575 - (mx a1_2 a2_2)), true)))))
theorem spec_l02Valuation.calls (k : Nat) (a0 a1_0 a1_1 a1_2 a2_0 a2_1 a2_2 r1 : Int) (r2 : Bool) (w : World) (h : spec_l02Valuation.f k a0 a1_0 a1_1 a1_2 a2_0 a2_1 a2_2 = some (r1, r2)) :
  Calls Try.prog 188 #[.int .i64 a0, .agg #[.int .i64 a1_0, .int .i64 a1_1, .int .i64 a1_2], .agg #[.int .i64 a2_0, .int .i64 a2_1, .int .i64 a2_2]] w fun e w' => e = .returned (.tuple #[.int .i64 r1, .bool r2]) ∧ Below w.heap.size w w' := by
 have hu25 := Try.underlying25
 have HB := Aside0.mk (Below.refl w.heap.size w)
 unfold spec_l02Valuation.f at h
 have H := h
 clear h
 obtain ⟨ji4, hji4⟩ : ∃ j_ : Int, (mx a1_2 a2_2) = j_ := ⟨_, rfl⟩
 replace H : ((spec_l01Power.f k a0 (wrap64 ((ji4) - a1_2))).bind fun t573 => ((spec_l01Power.f k a0 (wrap64 ((ji4) - a2_2))).bind fun t574 => (if (wrap64 ((wrap64 (a1_1 * t573)) - (wrap64 (a2_1 * t574)))) = 0 then (some (0, false)) else ((spec_l01Val.f k a0 (wrap64 ((wrap64 (a1_1 * t573)) - (wrap64 (a2_1 * t574))))).bind fun t575 => (some (wrap64 (t575 - (ji4)), true)))))) = some (r1, r2) := by first | (rw [hji4] at H; exact H) | (simp only [hji4] at H ⊢; exact H)
 have hji4_ : (if a1_2 < a2_2 then a2_2 else a1_2) = ji4 := hji4
 replace H := oc_ H
 obtain ⟨t573, A5, H⟩ := H
 replace H := oc_ H
 obtain ⟨t574, A6, H⟩ := H
 replace H := ie_ H
 rcases H with ⟨c7b0, c7b1, H⟩ | ⟨c7, c7b0, c7b1, H⟩
 ·simp only [Option.some.injEq, Prod.mk.injEq] at H
  obtain ⟨rfl, rfl⟩ := H
  go_enter Try.func188, Try.ntmps188
  go_wp2_with (first | ((refine gd_ 4 ?_); refine by_ 4 #[.int .i64 a1_0, .int .i64 a1_1, .int .i64 a1_2] 25 HB ?_; intro gb571 hg w8 BK571 hb GW571 HB_; replace HB := HB_; clear hb hg) | ((refine gd_ 5 ?_); refine by_ 5 #[.int .i64 a2_0, .int .i64 a2_1, .int .i64 a2_2] 25 HB ?_; intro gb572 hg w9 BK572 hb GW572 HB_; have NB571_572 := bm_ BK571 hg; have NB572_571 := bn_ BK571 hg; replace BK571 := bb_ BK571 hb; replace HB := HB_; clear hb hg; have hnb10 := NB571_572.out; have hnc10 := NB572_571.out; obtain ⟨hcz11_0, hcz11_1, hcz11_2, hfz11_0, hfz11_1, hfz11_2⟩ := ch3_ BK571; obtain ⟨hcz12_0, hcz12_1, hcz12_2, hfz12_0, hfz12_1, hfz12_2⟩ := ch3_ BK572) | (go_at_call 169; (with_reducible refine (spec_l01Power.calls k a0 (wrap64 ((ji4) - a1_2)) t573 _ A5.out).mono ?_); rintro e w' ⟨rfl, ⟨nd, rfl⟩⟩; (try exact dd_)) | (go_at_call 169; (with_reducible refine (spec_l01Power.calls k a0 (wrap64 ((ji4) - a2_2)) t574 _ A6.out).mono ?_); rintro e w' ⟨rfl, ⟨nd, rfl⟩⟩; (try exact dd_)))
  repeat (go_quiet (first | ((refine gd_ 4 ?_); refine by_ 4 #[.int .i64 a1_0, .int .i64 a1_1, .int .i64 a1_2] 25 HB ?_; intro gb571 hg w8 BK571 hb GW571 HB_; replace HB := HB_; clear hb hg) | ((refine gd_ 5 ?_); refine by_ 5 #[.int .i64 a2_0, .int .i64 a2_1, .int .i64 a2_2] 25 HB ?_; intro gb572 hg w9 BK572 hb GW572 HB_; have NB571_572 := bm_ BK571 hg; have NB572_571 := bn_ BK571 hg; replace BK571 := bb_ BK571 hb; replace HB := HB_; clear hb hg; have hnb10 := NB571_572.out; have hnc10 := NB572_571.out; obtain ⟨hcz11_0, hcz11_1, hcz11_2, hfz11_0, hfz11_1, hfz11_2⟩ := ch3_ BK571; obtain ⟨hcz12_0, hcz12_1, hcz12_2, hfz12_0, hfz12_1, hfz12_2⟩ := ch3_ BK572) | (go_at_call 169; (with_reducible refine (spec_l01Power.calls k a0 (wrap64 ((ji4) - a1_2)) t573 _ A5.out).mono ?_); rintro e w' ⟨rfl, ⟨nd, rfl⟩⟩; (try exact dd_)) | (go_at_call 169; (with_reducible refine (spec_l01Power.calls k a0 (wrap64 ((ji4) - a2_2)) t574 _ A6.out).mono ?_); rintro e w' ⟨rfl, ⟨nd, rfl⟩⟩; (try exact dd_))); try go_wp2_with (first | ((refine gd_ 4 ?_); refine by_ 4 #[.int .i64 a1_0, .int .i64 a1_1, .int .i64 a1_2] 25 HB ?_; intro gb571 hg w8 BK571 hb GW571 HB_; replace HB := HB_; clear hb hg) | ((refine gd_ 5 ?_); refine by_ 5 #[.int .i64 a2_0, .int .i64 a2_1, .int .i64 a2_2] 25 HB ?_; intro gb572 hg w9 BK572 hb GW572 HB_; have NB571_572 := bm_ BK571 hg; have NB572_571 := bn_ BK571 hg; replace BK571 := bb_ BK571 hb; replace HB := HB_; clear hb hg; have hnb10 := NB571_572.out; have hnc10 := NB572_571.out; obtain ⟨hcz11_0, hcz11_1, hcz11_2, hfz11_0, hfz11_1, hfz11_2⟩ := ch3_ BK571; obtain ⟨hcz12_0, hcz12_1, hcz12_2, hfz12_0, hfz12_1, hfz12_2⟩ := ch3_ BK572) | (go_at_call 169; (with_reducible refine (spec_l01Power.calls k a0 (wrap64 ((ji4) - a1_2)) t573 _ A5.out).mono ?_); rintro e w' ⟨rfl, ⟨nd, rfl⟩⟩; (try exact dd_)) | (go_at_call 169; (with_reducible refine (spec_l01Power.calls k a0 (wrap64 ((ji4) - a2_2)) t574 _ A6.out).mono ?_); rintro e w' ⟨rfl, ⟨nd, rfl⟩⟩; (try exact dd_))))
  go_ret2
  exact ⟨by first | rfl | (simp [errW_none, errW_some] <;> rfl) | (simp only [← hji4]; first | rfl | (simp [errW_none, errW_some] <;> rfl)) | (simp [*, errW_none, errW_some] <;> rfl), (bw_ HB).out⟩
 replace H := oc_ H
 obtain ⟨t575, A13, H⟩ := H
 simp only [Option.some.injEq, Prod.mk.injEq] at H
 obtain ⟨rfl, rfl⟩ := H
 go_enter Try.func188, Try.ntmps188
 go_wp2_with (first | ((refine gd_ 4 ?_); refine by_ 4 #[.int .i64 a1_0, .int .i64 a1_1, .int .i64 a1_2] 25 HB ?_; intro gb571 hg w14 BK571 hb GW571 HB_; replace HB := HB_; clear hb hg) | ((refine gd_ 5 ?_); refine by_ 5 #[.int .i64 a2_0, .int .i64 a2_1, .int .i64 a2_2] 25 HB ?_; intro gb572 hg w15 BK572 hb GW572 HB_; have NB571_572 := bm_ BK571 hg; have NB572_571 := bn_ BK571 hg; replace BK571 := bb_ BK571 hb; replace HB := HB_; clear hb hg; have hnb16 := NB571_572.out; have hnc16 := NB572_571.out; obtain ⟨hcz17_0, hcz17_1, hcz17_2, hfz17_0, hfz17_1, hfz17_2⟩ := ch3_ BK571; obtain ⟨hcz18_0, hcz18_1, hcz18_2, hfz18_0, hfz18_1, hfz18_2⟩ := ch3_ BK572) | (go_at_call 169; (with_reducible refine (spec_l01Power.calls k a0 (wrap64 ((ji4) - a1_2)) t573 _ A5.out).mono ?_); rintro e w' ⟨rfl, ⟨nd, rfl⟩⟩; (try exact dd_)) | (go_at_call 169; (with_reducible refine (spec_l01Power.calls k a0 (wrap64 ((ji4) - a2_2)) t574 _ A6.out).mono ?_); rintro e w' ⟨rfl, ⟨nd, rfl⟩⟩; (try exact dd_)) | (go_at_call 193; (with_reducible refine (spec_l01Val.calls k a0 (wrap64 ((wrap64 (a1_1 * t573)) - (wrap64 (a2_1 * t574)))) t575 _ A13.out).mono ?_); rintro e w' ⟨rfl, ⟨nd, rfl⟩⟩; (try exact dd_)))
 repeat (go_quiet (first | ((refine gd_ 4 ?_); refine by_ 4 #[.int .i64 a1_0, .int .i64 a1_1, .int .i64 a1_2] 25 HB ?_; intro gb571 hg w14 BK571 hb GW571 HB_; replace HB := HB_; clear hb hg) | ((refine gd_ 5 ?_); refine by_ 5 #[.int .i64 a2_0, .int .i64 a2_1, .int .i64 a2_2] 25 HB ?_; intro gb572 hg w15 BK572 hb GW572 HB_; have NB571_572 := bm_ BK571 hg; have NB572_571 := bn_ BK571 hg; replace BK571 := bb_ BK571 hb; replace HB := HB_; clear hb hg; have hnb16 := NB571_572.out; have hnc16 := NB572_571.out; obtain ⟨hcz17_0, hcz17_1, hcz17_2, hfz17_0, hfz17_1, hfz17_2⟩ := ch3_ BK571; obtain ⟨hcz18_0, hcz18_1, hcz18_2, hfz18_0, hfz18_1, hfz18_2⟩ := ch3_ BK572) | (go_at_call 169; (with_reducible refine (spec_l01Power.calls k a0 (wrap64 ((ji4) - a1_2)) t573 _ A5.out).mono ?_); rintro e w' ⟨rfl, ⟨nd, rfl⟩⟩; (try exact dd_)) | (go_at_call 169; (with_reducible refine (spec_l01Power.calls k a0 (wrap64 ((ji4) - a2_2)) t574 _ A6.out).mono ?_); rintro e w' ⟨rfl, ⟨nd, rfl⟩⟩; (try exact dd_)) | (go_at_call 193; (with_reducible refine (spec_l01Val.calls k a0 (wrap64 ((wrap64 (a1_1 * t573)) - (wrap64 (a2_1 * t574)))) t575 _ A13.out).mono ?_); rintro e w' ⟨rfl, ⟨nd, rfl⟩⟩; (try exact dd_))); try go_wp2_with (first | ((refine gd_ 4 ?_); refine by_ 4 #[.int .i64 a1_0, .int .i64 a1_1, .int .i64 a1_2] 25 HB ?_; intro gb571 hg w14 BK571 hb GW571 HB_; replace HB := HB_; clear hb hg) | ((refine gd_ 5 ?_); refine by_ 5 #[.int .i64 a2_0, .int .i64 a2_1, .int .i64 a2_2] 25 HB ?_; intro gb572 hg w15 BK572 hb GW572 HB_; have NB571_572 := bm_ BK571 hg; have NB572_571 := bn_ BK571 hg; replace BK571 := bb_ BK571 hb; replace HB := HB_; clear hb hg; have hnb16 := NB571_572.out; have hnc16 := NB572_571.out; obtain ⟨hcz17_0, hcz17_1, hcz17_2, hfz17_0, hfz17_1, hfz17_2⟩ := ch3_ BK571; obtain ⟨hcz18_0, hcz18_1, hcz18_2, hfz18_0, hfz18_1, hfz18_2⟩ := ch3_ BK572) | (go_at_call 169; (with_reducible refine (spec_l01Power.calls k a0 (wrap64 ((ji4) - a1_2)) t573 _ A5.out).mono ?_); rintro e w' ⟨rfl, ⟨nd, rfl⟩⟩; (try exact dd_)) | (go_at_call 169; (with_reducible refine (spec_l01Power.calls k a0 (wrap64 ((ji4) - a2_2)) t574 _ A6.out).mono ?_); rintro e w' ⟨rfl, ⟨nd, rfl⟩⟩; (try exact dd_)) | (go_at_call 193; (with_reducible refine (spec_l01Val.calls k a0 (wrap64 ((wrap64 (a1_1 * t573)) - (wrap64 (a2_1 * t574)))) t575 _ A13.out).mono ?_); rintro e w' ⟨rfl, ⟨nd, rfl⟩⟩; (try exact dd_))))
 go_ret2
 exact ⟨by first | rfl | (simp [errW_none, errW_some] <;> rfl) | (simp only [← hji4]; first | rfl | (simp [errW_none, errW_some] <;> rfl)) | (simp [*, errW_none, errW_some] <;> rfl), (bw_ HB).out⟩
/-! ### spec_l02Join: function 157 -/
def spec_l02Join.f (k : Nat) (a0 a1_0 a1_1 a1_2 a2_0 a2_1 a2_2 : Int) : Option (Int) := (spec_l02Valuation.f k a0 a1_0 a1_1 a1_2 a2_0 a2_1 a2_2).bind fun bt578 => (if bt578.2 = true then (some (mn (mn a1_0 a2_0) bt578.1)) else (some (mn a1_0 a2_0)))
theorem spec_l02Join.calls (k : Nat) (a0 a1_0 a1_1 a1_2 a2_0 a2_1 a2_2 r : Int) (w : World) (h : spec_l02Join.f k a0 a1_0 a1_1 a1_2 a2_0 a2_1 a2_2 = some r) :
  Calls Try.prog 157 #[.int .i64 a0, .agg #[.int .i64 a1_0, .int .i64 a1_1, .int .i64 a1_2], .agg #[.int .i64 a2_0, .int .i64 a2_1, .int .i64 a2_2]] w fun e w' => e = .returned (.int .i64 r) ∧ Below w.heap.size w w' := by
 have hu25 := Try.underlying25
 have HB := Aside0.mk (Below.refl w.heap.size w)
 unfold spec_l02Join.f at h
 have H := h
 clear h
 obtain ⟨ji4, hji4⟩ : ∃ j_ : Int, (mn a1_0 a2_0) = j_ := ⟨_, rfl⟩
 replace H : ((spec_l02Valuation.f k a0 a1_0 a1_1 a1_2 a2_0 a2_1 a2_2).bind fun bt578 => (if bt578.2 = true then (some (mn (ji4) bt578.1)) else (some ji4))) = some r := by first | (rw [hji4] at H; exact H) | (simp only [hji4] at H ⊢; exact H)
 have hji4_ : (if a2_0 < a1_0 then a2_0 else a1_0) = ji4 := hji4
 replace H := oc_ H
 obtain ⟨⟨t578, t579⟩, A5, H⟩ := H
 replace H := ib_ H
 rcases H with ⟨rfl, H⟩ | ⟨rfl, H⟩
 ·obtain ⟨ji7, hji7⟩ : ∃ j_ : Int, (mn (ji4) t578) = j_ := ⟨_, rfl⟩
  replace H : (some ji7) = some r := by first | (rw [hji7] at H; exact H) | (simp only [hji7] at H ⊢; exact H)
  (try rw [hji7] at A5)
  have hji7_ : (if t578 < (ji4) then t578 else (ji4)) = ji7 := hji7
  obtain rfl := si_ H
  go_enter Try.func157, Try.ntmps157
  go_wp2_with (first | ((refine gd_ 4 ?_); refine by_ 4 #[.int .i64 a1_0, .int .i64 a1_1, .int .i64 a1_2] 25 HB ?_; intro gb576 hg w8 BK576 hb GW576 HB_; replace HB := HB_; clear hb hg) | ((refine gd_ 5 ?_); refine by_ 5 #[.int .i64 a2_0, .int .i64 a2_1, .int .i64 a2_2] 25 HB ?_; intro gb577 hg w9 BK577 hb GW577 HB_; have NB576_577 := bm_ BK576 hg; have NB577_576 := bn_ BK576 hg; replace BK576 := bb_ BK576 hb; replace HB := HB_; clear hb hg; have hnb10 := NB576_577.out; have hnc10 := NB577_576.out; obtain ⟨hcz11_0, hcz11_1, hcz11_2, hfz11_0, hfz11_1, hfz11_2⟩ := ch3_ BK576; obtain ⟨hcz12_0, hcz12_1, hcz12_2, hfz12_0, hfz12_1, hfz12_2⟩ := ch3_ BK577) | ((refine gc_ 188 ?_); refine ge_ 19 Try.func188 #[.int .i64 a0, .agg #[.int .i64 a1_0, .int .i64 a1_1, .int .i64 a1_2], .agg #[.int .i64 a2_0, .int .i64 a2_1, .int .i64 a2_2]] ?_; (with_reducible refine (spec_l02Valuation.calls k a0 a1_0 a1_1 a1_2 a2_0 a2_1 a2_2 t578 true _ A5.out).mono ?_); rintro e w13 ⟨rfl, hb⟩; refine ⟨_, rfl, ?_⟩; replace BK576 := bb_ BK576 hb; replace BK577 := bb_ BK577 hb; replace HB := bt_ HB hb; (try clear hb)))
  go_ret
  exact ⟨by first | rfl | (simp [errW_none, errW_some] <;> rfl) | (simp only [← hji4, ← hji7]; first | rfl | (simp [errW_none, errW_some] <;> rfl)) | (simp [*, errW_none, errW_some] <;> rfl), (bw_ HB).out⟩
 obtain rfl := si_ H
 go_enter Try.func157, Try.ntmps157
 go_wp2_with (first | ((refine gd_ 4 ?_); refine by_ 4 #[.int .i64 a1_0, .int .i64 a1_1, .int .i64 a1_2] 25 HB ?_; intro gb576 hg w14 BK576 hb GW576 HB_; replace HB := HB_; clear hb hg) | ((refine gd_ 5 ?_); refine by_ 5 #[.int .i64 a2_0, .int .i64 a2_1, .int .i64 a2_2] 25 HB ?_; intro gb577 hg w15 BK577 hb GW577 HB_; have NB576_577 := bm_ BK576 hg; have NB577_576 := bn_ BK576 hg; replace BK576 := bb_ BK576 hb; replace HB := HB_; clear hb hg; have hnb16 := NB576_577.out; have hnc16 := NB577_576.out; obtain ⟨hcz17_0, hcz17_1, hcz17_2, hfz17_0, hfz17_1, hfz17_2⟩ := ch3_ BK576; obtain ⟨hcz18_0, hcz18_1, hcz18_2, hfz18_0, hfz18_1, hfz18_2⟩ := ch3_ BK577) | ((refine gc_ 188 ?_); refine ge_ 19 Try.func188 #[.int .i64 a0, .agg #[.int .i64 a1_0, .int .i64 a1_1, .int .i64 a1_2], .agg #[.int .i64 a2_0, .int .i64 a2_1, .int .i64 a2_2]] ?_; (with_reducible refine (spec_l02Valuation.calls k a0 a1_0 a1_1 a1_2 a2_0 a2_1 a2_2 t578 false _ A5.out).mono ?_); rintro e w19 ⟨rfl, hb⟩; refine ⟨_, rfl, ?_⟩; replace BK576 := bb_ BK576 hb; replace BK577 := bb_ BK577 hb; replace HB := bt_ HB hb; (try clear hb)))
 go_ret
 exact ⟨by first | rfl | (simp [errW_none, errW_some] <;> rfl) | (simp only [← hji4]; first | rfl | (simp [errW_none, errW_some] <;> rfl)) | (simp [*, errW_none, errW_some] <;> rfl), (bw_ HB).out⟩
/-! ### spec_l02Distance: function 125 -/
def spec_l02Distance.f (k : Nat) (a0 a1_0 a1_1 a1_2 a2_0 a2_1 a2_2 : Int) : Option (Int) := (spec_l02Join.f k a0 a1_0 a1_1 a1_2 a2_0 a2_1 a2_2).bind fun t582 => (some (wrap64 ((wrap64 (a1_0 + a2_0)) - (wrap64 (2 * t582)))))
def spec_l02Distance.T1 : Bool × List (List Nat × List Nat) := (true, [([], []), ([0], [0]), ([], []), ([2], [2]), ([1, 3], [1, 3]), ([], []), ([], []), ([], []), ([5, 6, 7], [5, 6, 7]), ([8], [8]), ([4, 9], [4, 9]), ([10, 8, 0, 1, 2, 3, 4, 5, 6, 7, 8, 9, 10], [10])])
def spec_l02Distance.B1 : List Nat := [0, 1, 0, 4, 15, 0, 0, 0, 224, 480, 1023, 2047]
theorem spec_l02Distance.tab1 : rtab .any (opsOf Try.f125 1) = spec_l02Distance.T1 := by kernel_rfl
theorem spec_l02Distance.bits1 : waitsOk spec_l02Distance.T1.2 spec_l02Distance.B1 = true := by kernel_rfl
theorem spec_l02Distance.calls (k : Nat) (a0 a1_0 a1_1 a1_2 a2_0 a2_1 a2_2 r : Int) (w : World) (h : spec_l02Distance.f k a0 a1_0 a1_1 a1_2 a2_0 a2_1 a2_2 = some r) :
  Calls Try.prog 125 #[.int .i64 a0, .agg #[.int .i64 a1_0, .int .i64 a1_1, .int .i64 a1_2], .agg #[.int .i64 a2_0, .int .i64 a2_1, .int .i64 a2_2]] w fun e w' => e = .returned (.int .i64 r) ∧ Below w.heap.size w w' := by
 have hu25 := Try.underlying25
 have HB := Aside0.mk (Below.refl w.heap.size w)
 unfold spec_l02Distance.f at h
 have H := h
 clear h
 replace H := oc_ H
 obtain ⟨t582, A4, H⟩ := H
 obtain rfl := si_ H
 go_enter Try.func125, Try.ntmps125
 try go_wp2_with (first | ((refine gd_ 4 ?_); refine by_ 4 #[.int .i64 a1_0, .int .i64 a1_1, .int .i64 a1_2] 25 HB ?_; intro gb580 hg w5 BK580 hb GW580 HB_; replace HB := HB_; clear hb hg) | ((refine gd_ 5 ?_); refine by_ 5 #[.int .i64 a2_0, .int .i64 a2_1, .int .i64 a2_2] 25 HB ?_; intro gb581 hg w6 BK581 hb GW581 HB_; have NB580_581 := bm_ BK580 hg; have NB581_580 := bn_ BK580 hg; replace BK580 := bb_ BK580 hb; replace HB := HB_; clear hb hg))
 replace BK580 := bd_ BK580
 replace BK581 := bd_ BK581
 replace HB := be_ HB
 refine start_ (n := 12) (S := fun w' => w'.cell? ⟨gb580, 0, none⟩ = some (.int .i64 a1_0) ∧ w'.cell? ⟨gb580, 1, none⟩ = some (.int .i64 a1_1) ∧ w'.cell? ⟨gb580, 2, none⟩ = some (.int .i64 a1_2) ∧ w'.cell? ⟨gb581, 0, none⟩ = some (.int .i64 a2_0) ∧ w'.cell? ⟨gb581, 1, none⟩ = some (.int .i64 a2_1) ∧ w'.cell? ⟨gb581, 2, none⟩ = some (.int .i64 a2_2)) (ds := []) (bv_ 12 0) (by kernel_rfl) rfl rfl ⟨cz_ BK580 0, cz_ BK580 1, cz_ BK580 2, cz_ BK581 0, cz_ BK581 1, cz_ BK581 2⟩ (fun hHeld => ?_); refine with_tabW spec_l02Distance.tab1 spec_l02Distance.bits1 (fun HT_ HW_ => ?_)
 generalize w6.drew = w7 at BK580 BK581 HB hHeld ⊢
 refine px_ HT_ 0 7 1 ?_
 refine px_ HT_ 2 9 5 ?_
 refine px_ HT_ 5 12 37 ?_
 refine ta_ HT_ HW_ 1 (some 8) (bv_ 12 39) hHeld ?_ (hy := by rintro w' ⟨s0, s1, s2, s3, s4, s5⟩; go_simp; with_reducible rfl)
 refine ta_ HT_ HW_ 3 (some 10) (bv_ 12 47) hHeld ?_ (hy := by rintro w' ⟨s0, s1, s2, s3, s4, s5⟩; go_simp; with_reducible rfl)
 refine px_ HT_ 4 11 63 ?_
 refine ta_ HT_ HW_ 6 (some 13) (bv_ 12 127) hHeld ?_ (hy := by rintro w' ⟨s0, s1, s2, s3, s4, s5⟩; go_simp; with_reducible rfl)
 refine ta_ HT_ HW_ 7 (some 14) (bv_ 12 255) hHeld ?_ (hy := by rintro w' ⟨s0, s1, s2, s3, s4, s5⟩; go_simp; with_reducible rfl)
 refine on_ HT_ 8 (some 15) (bv_ 12 511) (fun K hK => ?_)
 refine gs_ Try.func157 #[.int .i64 a0, .agg #[.int .i64 a1_0, .int .i64 a1_1, .int .i64 a1_2], .agg #[.int .i64 a2_0, .int .i64 a2_1, .int .i64 a2_2]] ?_
 with_reducible refine (spec_l02Join.calls k a0 a1_0 a1_1 a1_2 a2_0 a2_1 a2_2 t582 _ A4.out).mono ?_
 rintro e w8 ⟨rfl, hb⟩
 refine ⟨_, rfl, ?_⟩
 replace BK580 := bb_ BK580 hb
 replace BK581 := bb_ BK581 hb
 replace HB := bt_ HB hb
 try clear hb
 refine hK.out _ _ ⟨cz_ BK580 0, cz_ BK580 1, cz_ BK580 2, cz_ BK581 0, cz_ BK581 1, cz_ BK581 2⟩ (fun hHeld => ?_)
 clear hK K
 refine nm_ (some 15) ?_
 refine px_ HT_ 9 16 1023 ?_
 refine px_ HT_ 10 17 2047 ?_
 refine px_ HT_ 11 6 4095 ?_
 refine done_ (done_of HT_.out (by kernel_rfl)) ?_
 try go_wp2
 go_ret
 exact ⟨es_, (bw_ HB).out⟩
end Go.Proofs.Ytgoeelhiffbjlaa.QP
