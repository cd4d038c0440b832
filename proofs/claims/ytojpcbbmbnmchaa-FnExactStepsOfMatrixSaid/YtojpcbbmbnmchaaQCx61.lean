-- Written by a program of this session out of Lean's own print of the loaded program; Lean checks it.
import Derived.Test.YtojpcbbmbnmchaaQCx4
import Derived.Test.YtojpcbbmbnmchaaQCx1
import Derived.Test.YtojpcbbmbnmchaaQCx59
import Derived.Test.YtojpcbbmbnmchaaQCx60
namespace Go.Proofs.Ytojpcbbmbnmchaa.QC
open Go.RowKit Go.Proofs.YtojpcbbmbnmchaaW.PrintWords Go.Proofs.YtojpcbbmbnmchaaW.PrintLast Go.Proofs.YtojpcbbmbnmchaaW.PrintMore
attribute [local go_sem] isSome_setCell max2_int min2_int max_two min_two max_three min_three max_four min_four   -- for this text's walks alone
set_option linter.unusedVariables false
set_option linter.unusedSimpArgs false

attribute [local go_sem high] eqA28
/-! ### spec_l10Digit: function 89 -/
def spec_l10Digit.l0 : Nat → Int → Int → Int → Int → Int → Int → Int → Int → Option (Int)
 | 0, _, _, _, _, _, _, _, _ => none
 | k + 1, x0, x7, x432000, x432001, x432002, x437000, x437001, x437002 => if x7 < x0 then ((spec_l01Child.f k x0 x437000 x437001 x437002 x7).bind fun bt437 => (if bt437.2.2.2 = true then (if (bt437.1 == x432000 && (bt437.2.1 == x432001 && (bt437.2.2.1 == x432002))) = true then (some x7) else (spec_l10Digit.l0 k x0 (wrap64 (x7 + 1)) x432000 x432001 x432002 x437000 x437001 x437002)) else (spec_l10Digit.l0 k x0 (wrap64 (x7 + 1)) x432000 x432001 x432002 x437000 x437001 x437002))) else (some 0)
def spec_l10Digit.f (k : Nat) (a0 : Int) (a1_0 : Int) (a1_1 : Int) (a1_2 : Int) : Option (Int) := (spec_l01Parent.f k a0 a1_0 a1_1 a1_2).bind fun bt432 => (spec_l10Digit.l0 k a0 0 a1_0 a1_1 a1_2 bt432.1 bt432.2.1 bt432.2.2.1)
set_option maxHeartbeats 8000000 in
set_option maxRecDepth 100000 in
theorem spec_l10Digit.calls (k : Nat) (a0 : Int) (a1_0 : Int) (a1_1 : Int) (a1_2 : Int) (r : Int) (w : World) (h : spec_l10Digit.f k a0 a1_0 a1_1 a1_2 = some r) :
  Calls Try.prog 89 #[.int .i64 a0, .agg #[.int .i64 a1_0, .int .i64 a1_1, .int .i64 a1_2]] w fun e w' => e = .returned (.int .i64 r) ∧ Below w.heap.size w w' := by
 have hu28 := Try.underlying28
 have HB := Aside0.mk (Below.refl w.heap.size w)
 have H : ((spec_l01Parent.f k a0 a1_0 a1_1 a1_2).bind fun bt432 => (spec_l10Digit.l0 k a0 0 a1_0 a1_1 a1_2 bt432.1 bt432.2.1 bt432.2.2.1)) = some r := h
 clear h
 replace H := Option.bind_eq_some_iff.mp H
 obtain ⟨⟨t432, t433, t434, t435⟩, A30, H⟩ := H
 have A3 := Aside0.mk A30
 clear A30
 have H' := Aside0.mk H
 clear H
 go_enter Try.func89, Try.ntmps89
 go_wp2_with (first | ((with_reducible refine gate_dst (N := 3) rfl ?_); refine bx_ 3 #[.int .i64 a1_0, .int .i64 a1_1, .int .i64 a1_2] 28 ?_; intro gb431 hg w4 hbox hb; have BK431 := Aside0.mk (hbox); have GW431 := bs_ HB hg; have GE431 := bs_ HB hg; replace HB := bt_ HB hb; clear hb hbox hg; have hcz5_0 : w4.cell? ⟨gb431, 0, none⟩ = some (.int .i64 a1_0) := (blk_cell BK431.out 0).trans rfl; have hcz5_1 : w4.cell? ⟨gb431, 1, none⟩ = some (.int .i64 a1_1) := (blk_cell BK431.out 1).trans rfl; have hcz5_2 : w4.cell? ⟨gb431, 2, none⟩ = some (.int .i64 a1_2) := (blk_cell BK431.out 2).trans rfl; have hfz5_0 := blk_frozen BK431.out 0; have hfz5_1 := blk_frozen BK431.out 1; have hfz5_2 := blk_frozen BK431.out 2) | ((with_reducible refine gate_callee (f := 105) rfl ?_); refine goesL_ (some 13) rfl rfl Try.func105 (by kernel_rfl) rfl #[.int .i64 a0, .agg #[.int .i64 a1_0, .int .i64 a1_1, .int .i64 a1_2]] rfl (by (try simp only [List.map_toArray, List.map_cons, List.map_nil]); first | done | rfl | (simp only [List.length_drop, List.length_take]; rfl)) ?_; (with_reducible refine (spec_l01Parent.calls k a0 a1_0 a1_1 a1_2 t432 t433 t434 t435 _ A3.out).mono ?_); rintro e w6 ⟨rfl, hb⟩; refine ⟨_, rfl, ?_⟩; replace BK431 := bb_ BK431 hb; replace HB := bt_ HB hb; (try clear hb); (try clear hb2); (try clear hk); (try clear hi)) | ((with_reducible refine gate_dst (N := 5) rfl ?_); refine bx_ 5 #[.int .i64 0, .int .i64 0, .int .i64 0] 28 ?_; intro gb436 hg w7 hbox hb; have BK436 := Aside0.mk (hbox); have GW436 := bs_ HB hg; have GE436 := bs_ HB hg; have NB431_436 := bm_ BK431 hg; have NB436_431 := bn_ BK431 hg; replace BK431 := bb_ BK431 hb; replace HB := bt_ HB hb; clear hb hbox hg; have hnb8 := NB436_431.out; have hnc8 := NB431_436.out; have hcz9_0 : w7.cell? ⟨gb436, 0, none⟩ = some (.int .i64 0) := (blk_cell BK436.out 0).trans rfl; have hcz9_1 : w7.cell? ⟨gb436, 1, none⟩ = some (.int .i64 0) := (blk_cell BK436.out 1).trans rfl; have hcz9_2 : w7.cell? ⟨gb436, 2, none⟩ = some (.int .i64 0) := (blk_cell BK436.out 2).trans rfl; have hfz9_0 := blk_frozen BK436.out 0; have hfz9_1 := blk_frozen BK436.out 1; have hfz9_2 := blk_frozen BK436.out 2))
 go_loopg [7] k (fun kq v7 w' => ∃ (x7_1 : Int), v7 = .int .i64 x7_1 ∧ Aside0 (spec_l10Digit.l0 kq a0 x7_1 a1_0 a1_1 a1_2 t432 t433 t434 = some r) ∧ Aside0 (kq ≤ k) ∧ Aside0 (w'.heap[gb431]? = some (.cells #[.int .i64 a1_0, .int .i64 a1_1, .int .i64 a1_2] 28 (0, 0))) ∧ Aside0 (w'.heap[gb436]? = some (.cells #[.int .i64 t432, .int .i64 t433, .int .i64 t434] 28 (0, 0))) ∧ Aside0 (Below w.heap.size w w'))
 case atStart => exact ⟨(0), (by first | rfl | (simp; done) | (simp [*]; done) | (simp [wrap64]; done)), H', ⟨Nat.le_refl _⟩, ⟨by (with_reducible repeat first | apply blk_drewN | apply blk_drew | apply blk_alloc); refine blk_far ?_ NB431_436.out _; (with_reducible repeat first | apply blk_drewN | apply blk_drew | apply blk_alloc); refine blk_far ?_ NB431_436.out _; (with_reducible repeat first | apply blk_drewN | apply blk_drew | apply blk_alloc); refine blk_far ?_ NB431_436.out _; (with_reducible repeat first | apply blk_drewN | apply blk_drew | apply blk_alloc); exact BK431.out⟩, ⟨by (with_reducible repeat first | apply blk_drewN | apply blk_drew | apply blk_alloc); refine blk_put (cs := #[.int .i64 t432, .int .i64 t433, .int .i64 0]) ?_ 2 _ rfl; (with_reducible repeat first | apply blk_drewN | apply blk_drew | apply blk_alloc); refine blk_put (cs := #[.int .i64 t432, .int .i64 0, .int .i64 0]) ?_ 1 _ rfl; (with_reducible repeat first | apply blk_drewN | apply blk_drew | apply blk_alloc); refine blk_put (cs := #[.int .i64 0, .int .i64 0, .int .i64 0]) ?_ 0 _ rfl; (with_reducible repeat first | apply blk_drewN | apply blk_drew | apply blk_alloc); exact BK436.out⟩, bw_ HB⟩
 case round =>
  clear H'
  try clear c1
  try clear p2
  try clear c8
  try clear hcz5_0
  try clear hcz5_1
  try clear hcz5_2
  try clear hcz9_0
  try clear hcz9_1
  try clear hcz9_2
  try clear hfz5_0
  try clear hfz5_1
  try clear hfz5_2
  try clear hfz9_0
  try clear hfz9_1
  try clear hfz9_2
  obtain ⟨x7_1, rfl, HA, HK1, BK431, BK436, HB⟩ := hrel
  cases gk with
  | zero => exact absurd HA.out (by simp [spec_l10Digit.l0])
  | succ k1 =>
   have H := HA.out
   clear HA
   simp only [spec_l10Digit.l0] at H
   by_cases c10 : x7_1 < a0
   ·rw [if_pos c10] at H
    have c10b0 : decide (x7_1 < a0) = true := decide_eq_true c10
    clear c10
    replace H := Option.bind_eq_some_iff.mp H
    obtain ⟨⟨t437, t438, t439, t440⟩, A110, H⟩ := H
    have A11 := Aside0.mk A110
    clear A110
    by_cases c12 : t440 = true
    ·subst c12
     have H1 : (if (t437 == a1_0 && (t438 == a1_1 && (t439 == a1_2))) = true then (some x7_1) else (spec_l10Digit.l0 k1 a0 (wrap64 (x7_1 + 1)) a1_0 a1_1 a1_2 t432 t433 t434)) = some r := by rw [if_pos rfl] at H; exact H
     clear H
     have H := H1
     clear H1
     by_cases c13 : (t437 == a1_0 && (t438 == a1_1 && (t439 == a1_2))) = true
     ·rw [if_pos c13] at H
      have c13b0 : (t437 == a1_0 && (t438 == a1_1 && (t439 == a1_2))) = true := c13
      (try (have c13b1 : decide (t437 = a1_0 && (t438 == a1_1 && (t439 == a1_2))) = true := by simpa using c13))
      (try (have c13b2 : (t437 == a1_0 && (t438 == a1_1 && (t439 == a1_2))) = true := by simpa using c13))
      clear c13
      obtain rfl := Option.some.inj H
      have hnb14 := NB436_431.out
      have hnc14 := NB431_436.out
      have hcz15_0 : wr.cell? ⟨gb436, 0, none⟩ = some (.int .i64 t432) := (blk_cell BK436.out 0).trans rfl
      have hcz15_1 : wr.cell? ⟨gb436, 1, none⟩ = some (.int .i64 t433) := (blk_cell BK436.out 1).trans rfl
      have hcz15_2 : wr.cell? ⟨gb436, 2, none⟩ = some (.int .i64 t434) := (blk_cell BK436.out 2).trans rfl
      have hfz15_0 := blk_frozen BK436.out 0
      have hfz15_1 := blk_frozen BK436.out 1
      have hfz15_2 := blk_frozen BK436.out 2
      go_wp2_with (first | ((with_reducible refine gate_callee (f := 106) rfl ?_); refine goesL_ (some 25) rfl rfl Try.func106 (by kernel_rfl) rfl #[.int .i64 a0, .agg #[.int .i64 t432, .int .i64 t433, .int .i64 t434], .int .i64 x7_1] rfl (by (try simp only [List.map_toArray, List.map_cons, List.map_nil]); first | done | rfl | (simp only [List.length_drop, List.length_take]; rfl)) ?_; (with_reducible refine (spec_l01Child.calls k1 a0 t432 t433 t434 x7_1 t437 t438 t439 true _ A11.out).mono ?_); rintro e w16 ⟨rfl, hb⟩; refine ⟨_, rfl, ?_⟩; replace BK431 := bb_ BK431 hb; replace BK436 := bb_ BK436 hb; replace HB := bt_ HB hb; (try clear hb); (try clear hb2); (try clear hk); (try clear hi)) | ((with_reducible refine gate_dst (N := 8) rfl ?_); refine bx_ 8 #[.int .i64 0, .int .i64 0, .int .i64 0] 28 ?_; intro gb441 hg w17 hbox hb; have BK441 := Aside0.mk (hbox); have GW441 := bs_ HB hg; have GE441 := bs_ HB hg; have NB431_441 := bm_ BK431 hg; have NB441_431 := bn_ BK431 hg; have NB436_441 := bm_ BK436 hg; have NB441_436 := bn_ BK436 hg; replace BK431 := bb_ BK431 hb; replace BK436 := bb_ BK436 hb; replace HB := bt_ HB hb; clear hb hbox hg; have hnb18 := NB441_431.out; have hnc18 := NB431_441.out; have hnb19 := NB441_436.out; have hnc19 := NB436_441.out; have hcz20_0 : w17.cell? ⟨gb441, 0, none⟩ = some (.int .i64 0) := (blk_cell BK441.out 0).trans rfl; have hcz20_1 : w17.cell? ⟨gb441, 1, none⟩ = some (.int .i64 0) := (blk_cell BK441.out 1).trans rfl; have hcz20_2 : w17.cell? ⟨gb441, 2, none⟩ = some (.int .i64 0) := (blk_cell BK441.out 2).trans rfl; have hfz20_0 := blk_frozen BK441.out 0; have hfz20_1 := blk_frozen BK441.out 1; have hfz20_2 := blk_frozen BK441.out 2; have hcz21_0 : w17.cell? ⟨gb431, 0, none⟩ = some (.int .i64 a1_0) := (blk_cell BK431.out 0).trans rfl; have hcz21_1 : w17.cell? ⟨gb431, 1, none⟩ = some (.int .i64 a1_1) := (blk_cell BK431.out 1).trans rfl; have hcz21_2 : w17.cell? ⟨gb431, 2, none⟩ = some (.int .i64 a1_2) := (blk_cell BK431.out 2).trans rfl; have hfz21_0 := blk_frozen BK431.out 0; have hfz21_1 := blk_frozen BK431.out 1; have hfz21_2 := blk_frozen BK431.out 2))
      go_ret
      exact ⟨by first | rfl | (simp [errW_none, errW_some] <;> rfl) | (simp [*, errW_none, errW_some] <;> rfl), by repeat (first | (with_reducible first | exact HB.out | apply below_alloc | apply pw_below_drewN | apply below_drew1 | refine below_set ?_ GE431.out | refine below_set ?_ GE436.out | refine below_set ?_ GE441.out) | exact HB.out)⟩
     ·rw [if_neg c13] at H
      have c13b0 : (t437 == a1_0 && (t438 == a1_1 && (t439 == a1_2))) = false := by simpa using c13
      (try (have c13b1 : decide (t437 = a1_0 && (t438 == a1_1 && (t439 == a1_2))) = false := by simpa using c13))
      (try (have c13b2 : (t437 == a1_0 && (t438 == a1_1 && (t439 == a1_2))) = false := by simpa using c13))
      (try (have c13b3 : ¬ (t437 = a1_0 && (t438 == a1_1 && (t439 == a1_2))) := by simpa using c13))
      clear c13
      have H' := Aside0.mk H
      clear H
      have hnb22 := NB436_431.out
      have hnc22 := NB431_436.out
      have hcz23_0 : wr.cell? ⟨gb436, 0, none⟩ = some (.int .i64 t432) := (blk_cell BK436.out 0).trans rfl
      have hcz23_1 : wr.cell? ⟨gb436, 1, none⟩ = some (.int .i64 t433) := (blk_cell BK436.out 1).trans rfl
      have hcz23_2 : wr.cell? ⟨gb436, 2, none⟩ = some (.int .i64 t434) := (blk_cell BK436.out 2).trans rfl
      have hfz23_0 := blk_frozen BK436.out 0
      have hfz23_1 := blk_frozen BK436.out 1
      have hfz23_2 := blk_frozen BK436.out 2
      go_wp2_with (first | ((with_reducible refine gate_callee (f := 106) rfl ?_); refine goesL_ (some 25) rfl rfl Try.func106 (by kernel_rfl) rfl #[.int .i64 a0, .agg #[.int .i64 t432, .int .i64 t433, .int .i64 t434], .int .i64 x7_1] rfl (by (try simp only [List.map_toArray, List.map_cons, List.map_nil]); first | done | rfl | (simp only [List.length_drop, List.length_take]; rfl)) ?_; (with_reducible refine (spec_l01Child.calls k1 a0 t432 t433 t434 x7_1 t437 t438 t439 true _ A11.out).mono ?_); rintro e w24 ⟨rfl, hb⟩; refine ⟨_, rfl, ?_⟩; replace BK431 := bb_ BK431 hb; replace BK436 := bb_ BK436 hb; replace HB := bt_ HB hb; (try clear hb); (try clear hb2); (try clear hk); (try clear hi)) | ((with_reducible refine gate_dst (N := 8) rfl ?_); refine bx_ 8 #[.int .i64 0, .int .i64 0, .int .i64 0] 28 ?_; intro gb441 hg w25 hbox hb; have BK441 := Aside0.mk (hbox); have GW441 := bs_ HB hg; have GE441 := bs_ HB hg; have NB431_441 := bm_ BK431 hg; have NB441_431 := bn_ BK431 hg; have NB436_441 := bm_ BK436 hg; have NB441_436 := bn_ BK436 hg; replace BK431 := bb_ BK431 hb; replace BK436 := bb_ BK436 hb; replace HB := bt_ HB hb; clear hb hbox hg; have hnb26 := NB441_431.out; have hnc26 := NB431_441.out; have hnb27 := NB441_436.out; have hnc27 := NB436_441.out; have hcz28_0 : w25.cell? ⟨gb441, 0, none⟩ = some (.int .i64 0) := (blk_cell BK441.out 0).trans rfl; have hcz28_1 : w25.cell? ⟨gb441, 1, none⟩ = some (.int .i64 0) := (blk_cell BK441.out 1).trans rfl; have hcz28_2 : w25.cell? ⟨gb441, 2, none⟩ = some (.int .i64 0) := (blk_cell BK441.out 2).trans rfl; have hfz28_0 := blk_frozen BK441.out 0; have hfz28_1 := blk_frozen BK441.out 1; have hfz28_2 := blk_frozen BK441.out 2; have hcz29_0 : w25.cell? ⟨gb431, 0, none⟩ = some (.int .i64 a1_0) := (blk_cell BK431.out 0).trans rfl; have hcz29_1 : w25.cell? ⟨gb431, 1, none⟩ = some (.int .i64 a1_1) := (blk_cell BK431.out 1).trans rfl; have hcz29_2 : w25.cell? ⟨gb431, 2, none⟩ = some (.int .i64 a1_2) := (blk_cell BK431.out 2).trans rfl; have hfz29_0 := blk_frozen BK431.out 0; have hfz29_1 := blk_frozen BK431.out 1; have hfz29_2 := blk_frozen BK431.out 2))
      go_roundg k1
      case measure => have := HK1.out; omega
      case rel => exact ⟨(wrap64 (x7_1 + 1)), (by first | rfl | (simp; done) | (simp [*]; done) | (simp [wrap64]; done)), H', ⟨by have := HK1.out; omega⟩, ⟨by (with_reducible repeat first | apply blk_drewN | apply blk_drew | apply blk_alloc); refine blk_far ?_ NB431_441.out _; (with_reducible repeat first | apply blk_drewN | apply blk_drew | apply blk_alloc); refine blk_far ?_ NB431_441.out _; (with_reducible repeat first | apply blk_drewN | apply blk_drew | apply blk_alloc); refine blk_far ?_ NB431_441.out _; (with_reducible repeat first | apply blk_drewN | apply blk_drew | apply blk_alloc); exact BK431.out⟩, ⟨by (with_reducible repeat first | apply blk_drewN | apply blk_drew | apply blk_alloc); refine blk_far ?_ NB436_441.out _; (with_reducible repeat first | apply blk_drewN | apply blk_drew | apply blk_alloc); refine blk_far ?_ NB436_441.out _; (with_reducible repeat first | apply blk_drewN | apply blk_drew | apply blk_alloc); refine blk_far ?_ NB436_441.out _; (with_reducible repeat first | apply blk_drewN | apply blk_drew | apply blk_alloc); exact BK436.out⟩, bw_ HB⟩
    ·replace c12 := Bool.eq_false_iff.mpr c12
     subst c12
     have H1 : (spec_l10Digit.l0 k1 a0 (wrap64 (x7_1 + 1)) a1_0 a1_1 a1_2 t432 t433 t434) = some r := by rw [if_neg (show ¬ (false = true) by decide)] at H; exact H
     clear H
     have H := H1
     clear H1
     have H' := Aside0.mk H
     clear H
     have hnb30 := NB436_431.out
     have hnc30 := NB431_436.out
     have hcz31_0 : wr.cell? ⟨gb436, 0, none⟩ = some (.int .i64 t432) := (blk_cell BK436.out 0).trans rfl
     have hcz31_1 : wr.cell? ⟨gb436, 1, none⟩ = some (.int .i64 t433) := (blk_cell BK436.out 1).trans rfl
     have hcz31_2 : wr.cell? ⟨gb436, 2, none⟩ = some (.int .i64 t434) := (blk_cell BK436.out 2).trans rfl
     have hfz31_0 := blk_frozen BK436.out 0
     have hfz31_1 := blk_frozen BK436.out 1
     have hfz31_2 := blk_frozen BK436.out 2
     go_wp2_with (first | ((with_reducible refine gate_callee (f := 106) rfl ?_); refine goesL_ (some 25) rfl rfl Try.func106 (by kernel_rfl) rfl #[.int .i64 a0, .agg #[.int .i64 t432, .int .i64 t433, .int .i64 t434], .int .i64 x7_1] rfl (by (try simp only [List.map_toArray, List.map_cons, List.map_nil]); first | done | rfl | (simp only [List.length_drop, List.length_take]; rfl)) ?_; (with_reducible refine (spec_l01Child.calls k1 a0 t432 t433 t434 x7_1 t437 t438 t439 false _ A11.out).mono ?_); rintro e w32 ⟨rfl, hb⟩; refine ⟨_, rfl, ?_⟩; replace BK431 := bb_ BK431 hb; replace BK436 := bb_ BK436 hb; replace HB := bt_ HB hb; (try clear hb); (try clear hb2); (try clear hk); (try clear hi)) | ((with_reducible refine gate_dst (N := 8) rfl ?_); refine bx_ 8 #[.int .i64 0, .int .i64 0, .int .i64 0] 28 ?_; intro gb441 hg w33 hbox hb; have BK441 := Aside0.mk (hbox); have GW441 := bs_ HB hg; have GE441 := bs_ HB hg; have NB431_441 := bm_ BK431 hg; have NB441_431 := bn_ BK431 hg; have NB436_441 := bm_ BK436 hg; have NB441_436 := bn_ BK436 hg; replace BK431 := bb_ BK431 hb; replace BK436 := bb_ BK436 hb; replace HB := bt_ HB hb; clear hb hbox hg; have hnb34 := NB441_431.out; have hnc34 := NB431_441.out; have hnb35 := NB441_436.out; have hnc35 := NB436_441.out; have hcz36_0 : w33.cell? ⟨gb441, 0, none⟩ = some (.int .i64 0) := (blk_cell BK441.out 0).trans rfl; have hcz36_1 : w33.cell? ⟨gb441, 1, none⟩ = some (.int .i64 0) := (blk_cell BK441.out 1).trans rfl; have hcz36_2 : w33.cell? ⟨gb441, 2, none⟩ = some (.int .i64 0) := (blk_cell BK441.out 2).trans rfl; have hfz36_0 := blk_frozen BK441.out 0; have hfz36_1 := blk_frozen BK441.out 1; have hfz36_2 := blk_frozen BK441.out 2))
     go_roundg k1
     case measure => have := HK1.out; omega
     case rel => exact ⟨(wrap64 (x7_1 + 1)), (by first | rfl | (simp; done) | (simp [*]; done) | (simp [wrap64]; done)), H', ⟨by have := HK1.out; omega⟩, ⟨by (with_reducible repeat first | apply blk_drewN | apply blk_drew | apply blk_alloc); refine blk_far ?_ NB431_441.out _; (with_reducible repeat first | apply blk_drewN | apply blk_drew | apply blk_alloc); refine blk_far ?_ NB431_441.out _; (with_reducible repeat first | apply blk_drewN | apply blk_drew | apply blk_alloc); refine blk_far ?_ NB431_441.out _; (with_reducible repeat first | apply blk_drewN | apply blk_drew | apply blk_alloc); exact BK431.out⟩, ⟨by (with_reducible repeat first | apply blk_drewN | apply blk_drew | apply blk_alloc); refine blk_far ?_ NB436_441.out _; (with_reducible repeat first | apply blk_drewN | apply blk_drew | apply blk_alloc); refine blk_far ?_ NB436_441.out _; (with_reducible repeat first | apply blk_drewN | apply blk_drew | apply blk_alloc); refine blk_far ?_ NB436_441.out _; (with_reducible repeat first | apply blk_drewN | apply blk_drew | apply blk_alloc); exact BK436.out⟩, bw_ HB⟩
   ·rw [if_neg c10] at H
    have c10b0 : decide (x7_1 < a0) = false := decide_eq_false c10
    clear c10
    obtain rfl := Option.some.inj H
    go_wp2
    go_ret
    exact ⟨by first | rfl | (simp [errW_none, errW_some] <;> rfl) | (simp [*, errW_none, errW_some] <;> rfl), by repeat (first | (with_reducible first | exact HB.out | apply below_alloc | apply pw_below_drewN | apply below_drew1 | refine below_set ?_ GE431.out | refine below_set ?_ GE436.out) | exact HB.out)⟩
end Go.Proofs.Ytojpcbbmbnmchaa.QC
