import Derived.Test.YtbilincmcnnonaaQRx8
import Derived.Test.YtbilincmcnnonaaQRx16
namespace Go.Proofs.Ytbilincmcnnonaa.QR
open Go.RowKit Go.Proofs.YtbilincmcnnonaaW.PrintWords Go.Proofs.YtbilincmcnnonaaW.PrintLast Go.Proofs.YtbilincmcnnonaaW.PrintMore
attribute [local go_sem] isSome_setCell max2_int min2_int max_two min_two max_three min_three max_four min_four
set_option linter.unusedVariables false
set_option linter.unusedSimpArgs false

attribute [local go_sem high] eqA39
/-! ### spec_l10Digit: function 130 -/
def spec_l10Digit.l0 : Nat → Int → Int → Int → Int → Int → Int → Int → Int → Option (Int)
 | 0, _, _, _, _, _, _, _, _ => none
 | k + 1, x0, x7, x161000, x161001, x161002, x166000, x166001, x166002 => if x7 < x0 then ((spec_l01Child.f k x0 x166000 x166001 x166002 x7).bind fun bt166 => (if bt166.2.2.2 = true then (if (bt166.1 == x161000 && (bt166.2.1 == x161001 && (bt166.2.2.1 == x161002))) = true then (some x7) else (spec_l10Digit.l0 k x0 (wrap64 (x7 + 1)) x161000 x161001 x161002 x166000 x166001 x166002)) else (spec_l10Digit.l0 k x0 (wrap64 (x7 + 1)) x161000 x161001 x161002 x166000 x166001 x166002))) else (some 0)
def spec_l10Digit.f (k : Nat) (a0 : Int) (a1_0 : Int) (a1_1 : Int) (a1_2 : Int) : Option (Int) := (spec_l01Parent.f k a0 a1_0 a1_1 a1_2).bind fun bt161 => (spec_l10Digit.l0 k a0 0 a1_0 a1_1 a1_2 bt161.1 bt161.2.1 bt161.2.2.1)
set_option maxHeartbeats 8000000 in
set_option maxRecDepth 100000 in
theorem spec_l10Digit.calls (k : Nat) (a0 : Int) (a1_0 : Int) (a1_1 : Int) (a1_2 : Int) (r : Int) (w : World) (h : spec_l10Digit.f k a0 a1_0 a1_1 a1_2 = some r) :
  Calls Try.prog 130 #[.int .i64 a0, .agg #[.int .i64 a1_0, .int .i64 a1_1, .int .i64 a1_2]] w fun e w' => e = .returned (.int .i64 r) ∧ Below w.heap.size w w' := by
 have hu39 := Try.underlying39
 have HB := Aside0.mk (Below.refl w.heap.size w)
 have H : ((spec_l01Parent.f k a0 a1_0 a1_1 a1_2).bind fun bt161 => (spec_l10Digit.l0 k a0 0 a1_0 a1_1 a1_2 bt161.1 bt161.2.1 bt161.2.2.1)) = some r := h
 clear h
 replace H := ob_ H
 obtain ⟨⟨t161, t162, t163, t164⟩, A30, H⟩ := H
 have A3 := Aside0.mk A30
 clear A30
 have H' := Aside0.mk H
 clear H
 go_enter Try.func130, Try.ntmps130
 go_wp2_with (first | ((refine gd_ 3 ?_); refine bx_ 3 #[.int .i64 a1_0, .int .i64 a1_1, .int .i64 a1_2] 39 ?_; intro gb160 hg w4 BK160 hb; have GW160 := bs_ HB hg; have GE160 := bs_ HB hg; replace HB := bt_ HB hb; clear hb hg; obtain ⟨hcz5_0, hcz5_1, hcz5_2, hfz5_0, hfz5_1, hfz5_2⟩ := ch3_ BK160) | ((refine gc_ 159 ?_); refine ge_ 13 Try.func159 #[.int .i64 a0, .agg #[.int .i64 a1_0, .int .i64 a1_1, .int .i64 a1_2]] ?_; (with_reducible refine (spec_l01Parent.calls k a0 a1_0 a1_1 a1_2 t161 t162 t163 t164 _ A3.out).mono ?_); rintro e w6 ⟨rfl, hb⟩; refine ⟨_, rfl, ?_⟩; replace BK160 := bb_ BK160 hb; replace HB := bt_ HB hb; (try clear hb)) | ((refine gd_ 5 ?_); refine bx_ 5 #[.int .i64 0, .int .i64 0, .int .i64 0] 39 ?_; intro gb165 hg w7 BK165 hb; have GW165 := bs_ HB hg; have GE165 := bs_ HB hg; have NB160_165 := bm_ BK160 hg; have NB165_160 := bn_ BK160 hg; replace BK160 := bb_ BK160 hb; replace HB := bt_ HB hb; clear hb hg; have hnb8 := NB165_160.out; have hnc8 := NB160_165.out; obtain ⟨hcz9_0, hcz9_1, hcz9_2, hfz9_0, hfz9_1, hfz9_2⟩ := ch3_ BK165))
 go_loopg [7] k (fun kq v7 w' => ∃ (x7_1 : Int), v7 = .int .i64 x7_1 ∧ Aside0 (spec_l10Digit.l0 kq a0 x7_1 a1_0 a1_1 a1_2 t161 t162 t163 = some r) ∧ Aside0 (kq ≤ k) ∧ Aside0 (w'.heap[gb160]? = some (.cells #[.int .i64 a1_0, .int .i64 a1_1, .int .i64 a1_2] 39 (0, 0))) ∧ Aside0 (w'.heap[gb165]? = some (.cells #[.int .i64 t161, .int .i64 t162, .int .i64 t163] 39 (0, 0))) ∧ Aside0 (Below w.heap.size w w'))
 case atStart => exact ⟨(0), en_, H', ⟨Nat.le_refl _⟩, fl_ BK160 NB160_165, bp_ BK165, bw_ HB⟩
 case round =>
  clear H'
  try clear c1
  try clear p2
  try clear c8
  try clear hcz5_0 hcz5_1 hcz5_2
  try clear hcz9_0 hcz9_1 hcz9_2
  try clear hfz5_0 hfz5_1 hfz5_2
  try clear hfz9_0 hfz9_1 hfz9_2
  obtain ⟨x7_1, rfl, HA, HK1, BK160, BK165, HB⟩ := hrel
  cases gk with
  | zero => exact absurd HA.out (by simp [spec_l10Digit.l0])
  | succ k1 =>
   have H := HA.out
   clear HA
   simp only [spec_l10Digit.l0] at H
   by_cases c10 : x7_1 < a0
   ·rw [if_pos c10] at H
    have c10b0 : decide (x7_1 < a0) = true := decide_eq_true c10
    clear c10
    replace H := ob_ H
    obtain ⟨⟨t166, t167, t168, t169⟩, A110, H⟩ := H
    have A11 := Aside0.mk A110
    clear A110
    by_cases c12 : t169 = true
    ·subst c12
     have H1 : (if (t166 == a1_0 && (t167 == a1_1 && (t168 == a1_2))) = true then (some x7_1) else (spec_l10Digit.l0 k1 a0 (wrap64 (x7_1 + 1)) a1_0 a1_1 a1_2 t161 t162 t163)) = some r := by rw [if_pos rfl] at H; exact H
     clear H
     have H := H1
     clear H1
     by_cases c13 : (t166 == a1_0 && (t167 == a1_1 && (t168 == a1_2))) = true
     ·rw [if_pos c13] at H
      have c13b0 : (t166 == a1_0 && (t167 == a1_1 && (t168 == a1_2))) = true := c13
      (try (have c13b1 : decide (t166 = a1_0 && (t167 == a1_1 && (t168 == a1_2))) = true := by simpa using c13))
      (try (have c13b2 : (t166 == a1_0 && (t167 == a1_1 && (t168 == a1_2))) = true := by simpa using c13))
      clear c13
      obtain rfl := si_ H
      have hnb14 := NB165_160.out
      have hnc14 := NB160_165.out
      obtain ⟨hcz15_0, hcz15_1, hcz15_2, hfz15_0, hfz15_1, hfz15_2⟩ := ch3_ BK165
      go_wp2_with (first | ((refine gc_ 160 ?_); refine ge_ 25 Try.func160 #[.int .i64 a0, .agg #[.int .i64 t161, .int .i64 t162, .int .i64 t163], .int .i64 x7_1] ?_; (with_reducible refine (spec_l01Child.calls k1 a0 t161 t162 t163 x7_1 t166 t167 t168 true _ A11.out).mono ?_); rintro e w16 ⟨rfl, hb⟩; refine ⟨_, rfl, ?_⟩; replace BK160 := bb_ BK160 hb; replace BK165 := bb_ BK165 hb; replace HB := bt_ HB hb; (try clear hb)) | ((refine gd_ 8 ?_); refine bx_ 8 #[.int .i64 0, .int .i64 0, .int .i64 0] 39 ?_; intro gb170 hg w17 BK170 hb; have GW170 := bs_ HB hg; have GE170 := bs_ HB hg; have NB160_170 := bm_ BK160 hg; have NB170_160 := bn_ BK160 hg; have NB165_170 := bm_ BK165 hg; have NB170_165 := bn_ BK165 hg; replace BK160 := bb_ BK160 hb; replace BK165 := bb_ BK165 hb; replace HB := bt_ HB hb; clear hb hg; have hnb18 := NB170_160.out; have hnc18 := NB160_170.out; have hnb19 := NB170_165.out; have hnc19 := NB165_170.out; obtain ⟨hcz20_0, hcz20_1, hcz20_2, hfz20_0, hfz20_1, hfz20_2⟩ := ch3_ BK170; obtain ⟨hcz21_0, hcz21_1, hcz21_2, hfz21_0, hfz21_1, hfz21_2⟩ := ch3_ BK160))
      go_ret
      exact ⟨es_, (bw_ HB).out⟩
     ·rw [if_neg c13] at H
      have c13b0 : (t166 == a1_0 && (t167 == a1_1 && (t168 == a1_2))) = false := by simpa using c13
      (try (have c13b1 : decide (t166 = a1_0 && (t167 == a1_1 && (t168 == a1_2))) = false := by simpa using c13))
      (try (have c13b2 : (t166 == a1_0 && (t167 == a1_1 && (t168 == a1_2))) = false := by simpa using c13))
      (try (have c13b3 : ¬ (t166 = a1_0 && (t167 == a1_1 && (t168 == a1_2))) := by simpa using c13))
      clear c13
      have H' := Aside0.mk H
      clear H
      have hnb22 := NB165_160.out
      have hnc22 := NB160_165.out
      obtain ⟨hcz23_0, hcz23_1, hcz23_2, hfz23_0, hfz23_1, hfz23_2⟩ := ch3_ BK165
      go_wp2_with (first | ((refine gc_ 160 ?_); refine ge_ 25 Try.func160 #[.int .i64 a0, .agg #[.int .i64 t161, .int .i64 t162, .int .i64 t163], .int .i64 x7_1] ?_; (with_reducible refine (spec_l01Child.calls k1 a0 t161 t162 t163 x7_1 t166 t167 t168 true _ A11.out).mono ?_); rintro e w24 ⟨rfl, hb⟩; refine ⟨_, rfl, ?_⟩; replace BK160 := bb_ BK160 hb; replace BK165 := bb_ BK165 hb; replace HB := bt_ HB hb; (try clear hb)) | ((refine gd_ 8 ?_); refine bx_ 8 #[.int .i64 0, .int .i64 0, .int .i64 0] 39 ?_; intro gb170 hg w25 BK170 hb; have GW170 := bs_ HB hg; have GE170 := bs_ HB hg; have NB160_170 := bm_ BK160 hg; have NB170_160 := bn_ BK160 hg; have NB165_170 := bm_ BK165 hg; have NB170_165 := bn_ BK165 hg; replace BK160 := bb_ BK160 hb; replace BK165 := bb_ BK165 hb; replace HB := bt_ HB hb; clear hb hg; have hnb26 := NB170_160.out; have hnc26 := NB160_170.out; have hnb27 := NB170_165.out; have hnc27 := NB165_170.out; obtain ⟨hcz28_0, hcz28_1, hcz28_2, hfz28_0, hfz28_1, hfz28_2⟩ := ch3_ BK170; obtain ⟨hcz29_0, hcz29_1, hcz29_2, hfz29_0, hfz29_1, hfz29_2⟩ := ch3_ BK160))
      go_roundg k1
      case measure => have := HK1.out; omega
      case rel => exact ⟨(wrap64 (x7_1 + 1)), en_, H', ⟨by have := HK1.out; omega⟩, fl_ BK160 NB160_170, fl_ BK165 NB165_170, bw_ HB⟩
    ·replace c12 := Bool.eq_false_iff.mpr c12
     subst c12
     have H1 : (spec_l10Digit.l0 k1 a0 (wrap64 (x7_1 + 1)) a1_0 a1_1 a1_2 t161 t162 t163) = some r := by rw [if_neg (show ¬ (false = true) by decide)] at H; exact H
     clear H
     have H := H1
     clear H1
     have H' := Aside0.mk H
     clear H
     have hnb30 := NB165_160.out
     have hnc30 := NB160_165.out
     obtain ⟨hcz31_0, hcz31_1, hcz31_2, hfz31_0, hfz31_1, hfz31_2⟩ := ch3_ BK165
     go_wp2_with (first | ((refine gc_ 160 ?_); refine ge_ 25 Try.func160 #[.int .i64 a0, .agg #[.int .i64 t161, .int .i64 t162, .int .i64 t163], .int .i64 x7_1] ?_; (with_reducible refine (spec_l01Child.calls k1 a0 t161 t162 t163 x7_1 t166 t167 t168 false _ A11.out).mono ?_); rintro e w32 ⟨rfl, hb⟩; refine ⟨_, rfl, ?_⟩; replace BK160 := bb_ BK160 hb; replace BK165 := bb_ BK165 hb; replace HB := bt_ HB hb; (try clear hb)) | ((refine gd_ 8 ?_); refine bx_ 8 #[.int .i64 0, .int .i64 0, .int .i64 0] 39 ?_; intro gb170 hg w33 BK170 hb; have GW170 := bs_ HB hg; have GE170 := bs_ HB hg; have NB160_170 := bm_ BK160 hg; have NB170_160 := bn_ BK160 hg; have NB165_170 := bm_ BK165 hg; have NB170_165 := bn_ BK165 hg; replace BK160 := bb_ BK160 hb; replace BK165 := bb_ BK165 hb; replace HB := bt_ HB hb; clear hb hg; have hnb34 := NB170_160.out; have hnc34 := NB160_170.out; have hnb35 := NB170_165.out; have hnc35 := NB165_170.out; obtain ⟨hcz36_0, hcz36_1, hcz36_2, hfz36_0, hfz36_1, hfz36_2⟩ := ch3_ BK170))
     go_roundg k1
     case measure => have := HK1.out; omega
     case rel => exact ⟨(wrap64 (x7_1 + 1)), en_, H', ⟨by have := HK1.out; omega⟩, fl_ BK160 NB160_170, fl_ BK165 NB165_170, bw_ HB⟩
   ·rw [if_neg c10] at H
    have c10b0 : decide (x7_1 < a0) = false := decide_eq_false c10
    clear c10
    obtain rfl := si_ H
    go_wp2
    go_ret
    exact ⟨es_, (bw_ HB).out⟩
end Go.Proofs.Ytbilincmcnnonaa.QR
