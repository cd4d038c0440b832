-- Written by a program of this session out of Lean's own print of the loaded program; Lean checks it.
import Derived.Test.YtoiailmmgfokjaaQCx6
import Derived.Test.YtoiailmmgfokjaaQCx33
import Derived.Test.YtoiailmmgfokjaaQCx36
import Derived.Test.YtoiailmmgfokjaaQCx38
import Derived.Ground.SlgfProg
import Derived.Shelf.SlGeneric
import Derived.Shelf.SlicesQ.IndexFunc
namespace Go.Proofs.Ytoiailmmgfokjaa.QC
open Go.RowKit Go.Proofs.YtoiailmmgfokjaaW.PrintWords Go.Proofs.YtoiailmmgfokjaaW.PrintLast Go.Proofs.YtoiailmmgfokjaaW.PrintMore
attribute [local go_sem] isSome_setCell max2_int min2_int max_two min_two max_three min_three max_four min_four   -- for this text's walks alone
set_option linter.unusedVariables false
set_option linter.unusedSimpArgs false

/-! ### impl_measureCode: function 29 -/
def impl_measureCode.j0 : Nat → Int → Bool → Int → Int → Int → List (S63) → Int → Int → Int → Option (Int)
 | 0, _, _, _, _, _, _, _, _, _ => none
 | k + 1, x0, x7, x466000, x466001, x466002, x466003, x467000, x467001, x467002 => if x7 = true then (some 1) else ((impl_holds.f k x0 x466000 x466001 x466002 x467000 x467001 x467002).bind fun t469 => (if t469 = true then (some 0) else (some 2)))
def impl_measureCode.f (k : Nat) (a0 : Int) (a1_0 : Int) (a1_1 : Int) (a1_2 : Int) (l1_3 : List (S63)) (a2_0 : Int) (a2_1 : Int) (a2_2 : Int) : Option (Int) := (impl_IsMeasure.f k a0 a1_0 a1_1 a1_2 l1_3).bind fun t467 => (if t467 = true then ((impl_IsBall.f k a0 a2_0 a2_1 a2_2).bind fun t468 => (impl_measureCode.j0 k a0 (!t468) a1_0 a1_1 a1_2 l1_3 a2_0 a2_1 a2_2)) else (impl_measureCode.j0 k a0 true a1_0 a1_1 a1_2 l1_3 a2_0 a2_1 a2_2))
set_option maxHeartbeats 8000000 in
set_option maxRecDepth 100000 in
theorem impl_measureCode.calls (k : Nat) (a0 : Int) (a1_0 : Int) (a1_1 : Int) (a1_2 : Int) (A1_3 : Option Addr) (c1_3 : Nat) (l1_3 : List (S63)) (a2_0 : Int) (a2_1 : Int) (a2_2 : Int) (r : Int) (w : World) (hr1_3 : Kd.C k63 w A1_3 l1_3.length l1_3) (hc1_3 : l1_3.length ≤ c1_3) (h : impl_measureCode.f k a0 a1_0 a1_1 a1_2 l1_3 a2_0 a2_1 a2_2 = some r) :
  Calls Try.prog 29 #[.int .i64 a0, .agg #[.int .i64 a1_0, .int .i64 a1_1, .int .i64 a1_2, .slice A1_3 l1_3.length c1_3], .agg #[.int .i64 a2_0, .int .i64 a2_1, .int .i64 a2_2]] w fun e w' => e = .returned (.int .i64 r) ∧ Below w.heap.size w w' := by
 have hu33 := Try.underlying33
 have hu30 := Try.underlying30
 have HR1_3 := Aside0.mk hr1_3
 have HC1_3 := Aside0.mk hc1_3
 clear hr1_3 hc1_3
 have HB := Aside0.mk (Below.refl w.heap.size w)
 have H : ((impl_IsMeasure.f k a0 a1_0 a1_1 a1_2 l1_3).bind fun t467 => (if t467 = true then ((impl_IsBall.f k a0 a2_0 a2_1 a2_2).bind fun t468 => (impl_measureCode.j0 k a0 (!t468) a1_0 a1_1 a1_2 l1_3 a2_0 a2_1 a2_2)) else (impl_measureCode.j0 k a0 true a1_0 a1_1 a1_2 l1_3 a2_0 a2_1 a2_2))) = some r := h
 clear h
 have HC4 := Aside0.mk H
 clear H
 go_enter Try.func29, Try.ntmps29
 go_upto_region 1 with (first | ((with_reducible refine gate_dst (N := 4) rfl ?_); refine bx_ 4 #[.int .i64 a1_0, .int .i64 a1_1, .int .i64 a1_2, .slice A1_3 l1_3.length c1_3] 33 ?_; intro gb465 hg w5 hbox hb; have BK465 := Aside0.mk (hbox); have GW465 := bs_ HB hg; have GE465 := bs_ HB hg; replace HB := bt_ HB hb; clear hb hbox hg) | ((with_reducible refine gate_dst (N := 5) rfl ?_); refine bx_ 5 #[.int .i64 a2_0, .int .i64 a2_1, .int .i64 a2_2] 30 ?_; intro gb466 hg w6 hbox hb; have BK466 := Aside0.mk (hbox); have GW466 := bs_ HB hg; have GE466 := bs_ HB hg; have NB465_466 := bm_ BK465 hg; have NB466_465 := bn_ BK465 hg; replace BK465 := bb_ BK465 hb; replace HB := bt_ HB hb; clear hb hbox hg))
 (try simp only [Act.put, lstS, lstZ, lstC])
 go_cut [7] (fun v7 wc => ∃ (kq : Nat) (x7_3 : Bool), v7 = .bool x7_3 ∧ Aside0 (impl_measureCode.j0 kq a0 x7_3 a1_0 a1_1 a1_2 l1_3 a2_0 a2_1 a2_2 = some r) ∧ Aside0 (kq ≤ k) ∧ Aside0 (wc.heap[gb465]? = some (.cells #[.int .i64 a1_0, .int .i64 a1_1, .int .i64 a1_2, (.slice A1_3 l1_3.length c1_3)] 33 (0, 0))) ∧ Aside0 (wc.heap[gb466]? = some (.cells #[.int .i64 a2_0, .int .i64 a2_1, .int .i64 a2_2] 30 (0, 0))) ∧ Aside0 (Below w.heap.size w wc))
 case first =>
  have H := HC4.out
  clear HC4
  replace H := Option.bind_eq_some_iff.mp H
  obtain ⟨t467, A70, H⟩ := H
  have A7 := Aside0.mk A70
  clear A70
  by_cases c8 : t467 = true
  ·subst c8
   have H1 : ((impl_IsBall.f k a0 a2_0 a2_1 a2_2).bind fun t468 => (impl_measureCode.j0 k a0 (!t468) a1_0 a1_1 a1_2 l1_3 a2_0 a2_1 a2_2)) = some r := by rw [if_pos rfl] at H; exact H
   clear H
   have H := H1
   clear H1
   replace H := Option.bind_eq_some_iff.mp H
   obtain ⟨t468, A90, H⟩ := H
   have A9 := Aside0.mk A90
   clear A90
   have H' := Aside0.mk H
   clear H
   have hnb10 := NB465_466.out
   have hnc10 := NB466_465.out
   have hcz11_0 : w6.cell? ⟨gb465, 0, none⟩ = some (.int .i64 a1_0) := cz_ BK465 0
   have hcz11_1 : w6.cell? ⟨gb465, 1, none⟩ = some (.int .i64 a1_1) := cz_ BK465 1
   have hcz11_2 : w6.cell? ⟨gb465, 2, none⟩ = some (.int .i64 a1_2) := cz_ BK465 2
   have hcz11_3 : w6.cell? ⟨gb465, 3, none⟩ = some (.slice A1_3 l1_3.length c1_3) := cz_ BK465 3
   have hfz11_0 := fz_ BK465 0
   have hfz11_1 := fz_ BK465 1
   have hfz11_2 := fz_ BK465 2
   have hfz11_3 := fz_ BK465 3
   go_wp2_with (first | ((with_reducible refine gate_callee (f := 36) rfl ?_); refine ge_ 10 Try.func36 #[.int .i64 a0, .agg #[.int .i64 a1_0, .int .i64 a1_1, .int .i64 a1_2, .slice A1_3 l1_3.length c1_3]] ?_; (with_reducible refine (impl_IsMeasure.calls k a0 a1_0 a1_1 a1_2 _ _ l1_3 true _ ?side1 ?side2 A7.out).mono ?_); (case side1 => repeat (first | exact (Kd.C_below HR1_3.out (bw_ HB).out) | (with_reducible refine Kd.C_alloc ?_ _) | (with_reducible refine Kd.C_drewN ?_ _) | (with_reducible refine Kd.C_drew ?_))); (case side2 => exact HC1_3.out); rintro e w12 ⟨rfl, hb⟩; refine ⟨_, rfl, ?_⟩; replace BK465 := bb_ BK465 hb; replace BK466 := bb_ BK466 hb; replace HB := bt_ HB hb; (try clear hb); (try clear hb2); (try clear hk); (try clear hi); have hcz13_0 : w12.cell? ⟨gb466, 0, none⟩ = some (.int .i64 a2_0) := cz_ BK466 0; have hcz13_1 : w12.cell? ⟨gb466, 1, none⟩ = some (.int .i64 a2_1) := cz_ BK466 1; have hcz13_2 : w12.cell? ⟨gb466, 2, none⟩ = some (.int .i64 a2_2) := cz_ BK466 2; have hfz13_0 := fz_ BK466 0; have hfz13_1 := fz_ BK466 1; have hfz13_2 := fz_ BK466 2) | (go_at_call 56; (with_reducible refine (impl_IsBall.calls k a0 a2_0 a2_1 a2_2 t468 _ A9.out).mono ?_); rintro e w14 ⟨rfl, hb⟩; replace BK465 := bb_ BK465 hb; replace BK466 := bb_ BK466 hb; replace HB := bt_ HB hb; (try clear hb); (try clear hb2); (try clear hk); (try clear hi)))
   go_meet
   case rel => exact ⟨_, (!t468), (by first | rfl | (simp; done) | (simp [*]; done) | (simp [wrap64]; done)), H', ⟨by first | omega | exact Nat.le_refl _⟩, bl_ BK465, bl_ BK466, bw_ HB⟩
  ·replace c8 := Bool.eq_false_iff.mpr c8
   subst c8
   have H1 : (impl_measureCode.j0 k a0 true a1_0 a1_1 a1_2 l1_3 a2_0 a2_1 a2_2) = some r := by rw [if_neg (show ¬ (false = true) by decide)] at H; exact H
   clear H
   have H := H1
   clear H1
   have H' := Aside0.mk H
   clear H
   have hnb15 := NB465_466.out
   have hnc15 := NB466_465.out
   have hcz16_0 : w6.cell? ⟨gb465, 0, none⟩ = some (.int .i64 a1_0) := cz_ BK465 0
   have hcz16_1 : w6.cell? ⟨gb465, 1, none⟩ = some (.int .i64 a1_1) := cz_ BK465 1
   have hcz16_2 : w6.cell? ⟨gb465, 2, none⟩ = some (.int .i64 a1_2) := cz_ BK465 2
   have hcz16_3 : w6.cell? ⟨gb465, 3, none⟩ = some (.slice A1_3 l1_3.length c1_3) := cz_ BK465 3
   have hfz16_0 := fz_ BK465 0
   have hfz16_1 := fz_ BK465 1
   have hfz16_2 := fz_ BK465 2
   have hfz16_3 := fz_ BK465 3
   go_wp2_with (first | ((with_reducible refine gate_callee (f := 36) rfl ?_); refine ge_ 10 Try.func36 #[.int .i64 a0, .agg #[.int .i64 a1_0, .int .i64 a1_1, .int .i64 a1_2, .slice A1_3 l1_3.length c1_3]] ?_; (with_reducible refine (impl_IsMeasure.calls k a0 a1_0 a1_1 a1_2 _ _ l1_3 false _ ?side1 ?side2 A7.out).mono ?_); (case side1 => repeat (first | exact (Kd.C_below HR1_3.out (bw_ HB).out) | (with_reducible refine Kd.C_alloc ?_ _) | (with_reducible refine Kd.C_drewN ?_ _) | (with_reducible refine Kd.C_drew ?_))); (case side2 => exact HC1_3.out); rintro e w17 ⟨rfl, hb⟩; refine ⟨_, rfl, ?_⟩; replace BK465 := bb_ BK465 hb; replace BK466 := bb_ BK466 hb; replace HB := bt_ HB hb; (try clear hb); (try clear hb2); (try clear hk); (try clear hi)))
   go_meet
   case rel => exact ⟨_, (true), (by first | rfl | (simp; done) | (simp [*]; done) | (simp [wrap64]; done)), H', ⟨by first | omega | exact Nat.le_refl _⟩, bl_ BK465, bl_ BK466, bw_ HB⟩
 case rest =>
  clear HC4
  try clear c1
  try clear c2
  try clear p2
  try clear c3
  try clear c8
  try clear c10
  try clear c15
  try clear hcz11_0
  try clear hcz11_1
  try clear hcz11_2
  try clear hcz11_3
  try clear hcz13_0
  try clear hcz13_1
  try clear hcz13_2
  try clear hcz16_0
  try clear hcz16_1
  try clear hcz16_2
  try clear hcz16_3
  try clear hfz11_0
  try clear hfz11_1
  try clear hfz11_2
  try clear hfz11_3
  try clear hfz13_0
  try clear hfz13_1
  try clear hfz13_2
  try clear hfz16_0
  try clear hfz16_1
  try clear hfz16_2
  try clear hfz16_3
  obtain ⟨kq, x7_3, rfl, HA, HJ3, BK465, BK466, HB⟩ := hcut
  cases kq with
  | zero => exact absurd HA.out (by simp [impl_measureCode.j0])
  | succ kj3 =>
   have H := HA.out
   clear HA
   simp only [impl_measureCode.j0] at H
   by_cases c18 : x7_3 = true
   ·subst c18
    have H1 : (some 1) = some r := by rw [if_pos rfl] at H; exact H
    clear H
    have H := H1
    clear H1
    obtain rfl := Option.some.inj H
    go_wp2
    go_ret
    exact ⟨by first | rfl | (simp [errW_none, errW_some] <;> rfl) | (simp [*, errW_none, errW_some] <;> rfl), by repeat (first | (with_reducible first | exact HB.out | apply below_alloc | apply pw_below_drewN | apply below_drew1 | refine below_set ?_ GE465.out | refine below_set ?_ GE466.out) | exact HB.out)⟩
   ·replace c18 := Bool.eq_false_iff.mpr c18
    subst c18
    have H1 : ((impl_holds.f kj3 a0 a1_0 a1_1 a1_2 a2_0 a2_1 a2_2).bind fun t469 => (if t469 = true then (some 0) else (some 2))) = some r := by rw [if_neg (show ¬ (false = true) by decide)] at H; exact H
    clear H
    have H := H1
    clear H1
    replace H := Option.bind_eq_some_iff.mp H
    obtain ⟨t469, A190, H⟩ := H
    have A19 := Aside0.mk A190
    clear A190
    by_cases c20 : t469 = true
    ·subst c20
     have H1 : (some 0) = some r := by rw [if_pos rfl] at H; exact H
     clear H
     have H := H1
     clear H1
     obtain rfl := Option.some.inj H
     have hnb21 := NB465_466.out
     have hnc21 := NB466_465.out
     have hcz22_0 : wc.cell? ⟨gb465, 0, none⟩ = some (.int .i64 a1_0) := cz_ BK465 0
     have hcz22_1 : wc.cell? ⟨gb465, 1, none⟩ = some (.int .i64 a1_1) := cz_ BK465 1
     have hcz22_2 : wc.cell? ⟨gb465, 2, none⟩ = some (.int .i64 a1_2) := cz_ BK465 2
     have hcz22_3 : wc.cell? ⟨gb465, 3, none⟩ = some (.slice A1_3 l1_3.length c1_3) := cz_ BK465 3
     have hfz22_0 := fz_ BK465 0
     have hfz22_1 := fz_ BK465 1
     have hfz22_2 := fz_ BK465 2
     have hfz22_3 := fz_ BK465 3
     have hcz23_0 : wc.cell? ⟨gb466, 0, none⟩ = some (.int .i64 a2_0) := cz_ BK466 0
     have hcz23_1 : wc.cell? ⟨gb466, 1, none⟩ = some (.int .i64 a2_1) := cz_ BK466 1
     have hcz23_2 : wc.cell? ⟨gb466, 2, none⟩ = some (.int .i64 a2_2) := cz_ BK466 2
     have hfz23_0 := fz_ BK466 0
     have hfz23_1 := fz_ BK466 1
     have hfz23_2 := fz_ BK466 2
     go_wp2_with (first | ((with_reducible refine gate_callee (f := 57) rfl ?_); refine ge_ 23 Try.func57 #[.int .i64 a0, .agg #[.int .i64 a1_0, .int .i64 a1_1, .int .i64 a1_2], .agg #[.int .i64 a2_0, .int .i64 a2_1, .int .i64 a2_2]] ?_; (with_reducible refine (impl_holds.calls kj3 a0 a1_0 a1_1 a1_2 a2_0 a2_1 a2_2 true _ A19.out).mono ?_); rintro e w24 ⟨rfl, hb⟩; refine ⟨_, rfl, ?_⟩; replace BK465 := bb_ BK465 hb; replace BK466 := bb_ BK466 hb; replace HB := bt_ HB hb; (try clear hb); (try clear hb2); (try clear hk); (try clear hi)))
     go_ret
     exact ⟨by first | rfl | (simp [errW_none, errW_some] <;> rfl) | (simp [*, errW_none, errW_some] <;> rfl), by repeat (first | (with_reducible first | exact HB.out | apply below_alloc | apply pw_below_drewN | apply below_drew1 | refine below_set ?_ GE465.out | refine below_set ?_ GE466.out) | exact HB.out)⟩
    ·replace c20 := Bool.eq_false_iff.mpr c20
     subst c20
     have H1 : (some 2) = some r := by rw [if_neg (show ¬ (false = true) by decide)] at H; exact H
     clear H
     have H := H1
     clear H1
     obtain rfl := Option.some.inj H
     have hnb25 := NB465_466.out
     have hnc25 := NB466_465.out
     have hcz26_0 : wc.cell? ⟨gb465, 0, none⟩ = some (.int .i64 a1_0) := cz_ BK465 0
     have hcz26_1 : wc.cell? ⟨gb465, 1, none⟩ = some (.int .i64 a1_1) := cz_ BK465 1
     have hcz26_2 : wc.cell? ⟨gb465, 2, none⟩ = some (.int .i64 a1_2) := cz_ BK465 2
     have hcz26_3 : wc.cell? ⟨gb465, 3, none⟩ = some (.slice A1_3 l1_3.length c1_3) := cz_ BK465 3
     have hfz26_0 := fz_ BK465 0
     have hfz26_1 := fz_ BK465 1
     have hfz26_2 := fz_ BK465 2
     have hfz26_3 := fz_ BK465 3
     have hcz27_0 : wc.cell? ⟨gb466, 0, none⟩ = some (.int .i64 a2_0) := cz_ BK466 0
     have hcz27_1 : wc.cell? ⟨gb466, 1, none⟩ = some (.int .i64 a2_1) := cz_ BK466 1
     have hcz27_2 : wc.cell? ⟨gb466, 2, none⟩ = some (.int .i64 a2_2) := cz_ BK466 2
     have hfz27_0 := fz_ BK466 0
     have hfz27_1 := fz_ BK466 1
     have hfz27_2 := fz_ BK466 2
     go_wp2_with (first | ((with_reducible refine gate_callee (f := 57) rfl ?_); refine ge_ 23 Try.func57 #[.int .i64 a0, .agg #[.int .i64 a1_0, .int .i64 a1_1, .int .i64 a1_2], .agg #[.int .i64 a2_0, .int .i64 a2_1, .int .i64 a2_2]] ?_; (with_reducible refine (impl_holds.calls kj3 a0 a1_0 a1_1 a1_2 a2_0 a2_1 a2_2 false _ A19.out).mono ?_); rintro e w28 ⟨rfl, hb⟩; refine ⟨_, rfl, ?_⟩; replace BK465 := bb_ BK465 hb; replace BK466 := bb_ BK466 hb; replace HB := bt_ HB hb; (try clear hb); (try clear hb2); (try clear hk); (try clear hi)))
     go_ret
     exact ⟨by first | rfl | (simp [errW_none, errW_some] <;> rfl) | (simp [*, errW_none, errW_some] <;> rfl), by repeat (first | (with_reducible first | exact HB.out | apply below_alloc | apply pw_below_drewN | apply below_drew1 | refine below_set ?_ GE465.out | refine below_set ?_ GE466.out) | exact HB.out)⟩
attribute [local go_sem high] eqA30
/-! ### impl_inPiece: function 30 -/
shelf_lay_g SlLaysH0.n8 Slgf 8 at Try 58 as contains58
set_option maxHeartbeats 4000000 in
set_option maxRecDepth 100000 in
theorem impl_inPiece.one (k : Nat) (a0 b0 b1 b2 : Int) (x : S63) (t : Bool) (ht : impl_holds.f k a0 x.f0.f0 x.f0.f1 x.f0.f2 b0 b1 b2 = some t) (Bb Bp : Nat) (w : World) (h0 : w.cell? ⟨Bb, 0, none⟩ = some (.int .i64 b0)) (h1 : w.cell? ⟨Bb, 1, none⟩ = some (.int .i64 b1)) (h2 : w.cell? ⟨Bb, 2, none⟩ = some (.int .i64 b2)) (hp : w.cell? ⟨Bp, 0, none⟩ = some (.int .i64 a0)) (hb : Bb < w.heap.size) (hq : Bp < w.heap.size) :
  Calls Try.prog 59 #[.agg #[.int .i64 x.f0.f0, .int .i64 x.f0.f1, .int .i64 x.f0.f2, .int .i64 x.f1], .pointer (some ⟨Bb, 0, none⟩), .pointer (some ⟨Bp, 0, none⟩)] w fun e w' => e = .returned (.bool (!(x.f0.f0 == b0 && (x.f0.f1 == b1 && (x.f0.f2 == b2))) && t)) ∧ Below w.heap.size w w' := by
 have hcon := fun W' => impl_holds.calls k a0 x.f0.f0 x.f0.f1 x.f0.f2 b0 b1 b2 t W' ht
 have hne : Bb ≠ w.heap.size := by omega
 have hnp : Bp ≠ w.heap.size := by omega
 go_enter Try.func59, Try.ntmps59
 go_wp2_with (go_at_call 57; refine (hcon _).mono ?_; rintro e w' ⟨rfl, hb'⟩)
 ·go_ret
  refine ⟨?_, (Below.refl _ w).trans ?_⟩
  ·cases x.f0.f0 == b0 <;> cases x.f0.f1 == b1 <;> cases x.f0.f2 == b2 <;> rfl
  ·exact ((Below.refl _ w).alloc (Nat.le_refl _) _).trans (hb'.mono (by simp))
 ·rename_i hh
  have e0 : x.f0.f0 = b0 := Classical.byContradiction fun h => hh (.inl h)
  have e1 : x.f0.f1 = b1 := Classical.byContradiction fun h => hh (.inr (.inl h))
  have e2 : x.f0.f2 = b2 := Classical.byContradiction fun h => hh (.inr (.inr h))
  go_ret
  refine ⟨?_, (Below.refl _ w).alloc (Nat.le_refl _) _⟩
  rw [e0, e1, e2]; simp
theorem cell_new_ (w : World) (cs : Array Value) (t : TypeId) (n : Nat) (h : n = w.heap.size) (i : Nat) : (w.alloc (.cells cs t)).cell? ⟨n, i, none⟩ = cs[i]? := by
 subst h
 unfold World.cell? World.alloc
 simp
def impl_inPiece.enc (x : S63) : List Value := [.int .i64 x.f0.f0, .int .i64 x.f0.f1, .int .i64 x.f0.f2, .int .i64 x.f1]
def impl_inPiece.p (k : Nat) (a0 a2_0 a2_1 a2_2 : Int) (x : S63) : Bool := !(x.f0.f0 == a2_0 && (x.f0.f1 == a2_1 && (x.f0.f2 == a2_2))) && (impl_holds.f k a0 x.f0.f0 x.f0.f1 x.f0.f2 a2_0 a2_1 a2_2).getD false
def impl_inPiece.f (k : Nat) (a0 : Int) (a1_0 : Int) (a1_1 : Int) (a1_2 : Int) (l1_3 : List (S63)) (a2_0 : Int) (a2_1 : Int) (a2_2 : Int) : Option (Bool) :=
 if 0 < l1_3.length ∧ (l1_3.all fun x => (impl_holds.f k a0 x.f0.f0 x.f0.f1 x.f0.f2 a2_0 a2_1 a2_2).isSome) = true then some (l1_3.any (impl_inPiece.p k a0 a2_0 a2_1 a2_2)) else none
set_option maxHeartbeats 4000000 in
set_option maxRecDepth 100000 in
theorem impl_inPiece.scan (k : Nat) (a0 : Int) (b off c1_3 : Nat) (l1_3 : List (S63)) (a2_0 : Int) (a2_1 : Int) (a2_2 : Int) (w w3 : World) (hr1_3 : Kd.C k63 w (some ⟨b, off, none⟩) l1_3.length l1_3) (hl0 : 0 < l1_3.length)
  (hall' : ∀ x ∈ l1_3, (impl_holds.f k a0 x.f0.f0 x.f0.f1 x.f0.f2 a2_0 a2_1 a2_2).isSome = true) (hB3 : Below w.heap.size w w3) (s3 : w3.heap.size = w.heap.size + 3)
  (h0 : w3.cell? ⟨w.heap.size + 2, 0, none⟩ = some (.int .i64 a2_0)) (h1 : w3.cell? ⟨w.heap.size + 2, 1, none⟩ = some (.int .i64 a2_1)) (h2 : w3.cell? ⟨w.heap.size + 2, 2, none⟩ = some (.int .i64 a2_2)) (hp : w3.cell? ⟨w.heap.size, 0, none⟩ = some (.int .i64 a0)) :
  Calls Try.prog 58 #[.slice (some ⟨b, off, none⟩) l1_3.length c1_3, .func (.func 59) #[] #[.pointer (some ⟨w.heap.size + 2, 0, none⟩), .pointer (some ⟨w.heap.size, 0, none⟩)]] w3 fun e w' => e = .returned (.bool (l1_3.any (impl_inPiece.p k a0 a2_0 a2_1 a2_2))) ∧ Below w3.heap.size w3 w' := by
 have hadd : ∀ j, (⟨b, off, none⟩ : Addr).add j = ⟨b, off + j, none⟩ := fun j => by unfold Addr.add; split <;> simp_all
 have hcells : ∀ (j : Nat), j < l1_3.length → ∀ i v, (impl_inPiece.enc (l1_3.getD j z63))[i]? = some v → w.cell? ⟨b, off + (j * 4 + i), none⟩ = some v := by
  intro j hj i v hi
  obtain ⟨ad', cj, he, hcj, hKj, hccj⟩ := Kd.C_get hr1_3 z63 (j : Int) (by omega) (by omega)
  injection he with he
  subst he
  obtain rfl := k63_open hKj
  rw [← hadd]
  exact hccj i v hi
 have hbw : b < w.heap.size := by
  have h1 := hcells 0 hl0 0 _ rfl
  unfold World.cell? at h1
  split at h1
  ·rename_i h2; exact (Array.getElem?_eq_some_iff.1 h2).1
  ·simp at h1
 haveI : Inhabited { x : S63 // (impl_holds.f k a0 x.f0.f0 x.f0.f1 x.f0.f2 a2_0 a2_1 a2_2).isSome = true } := ⟨⟨l1_3[0], hall' _ (List.getElem_mem hl0)⟩⟩
 obtain ⟨zs, hzs⟩ : ∃ zs : List { x : S63 // (impl_holds.f k a0 x.f0.f0 x.f0.f1 x.f0.f2 a2_0 a2_1 a2_2).isSome = true }, zs = l1_3.pmap Subtype.mk hall' := ⟨_, rfl⟩
 have hzl : zs.length = l1_3.length := by rw [hzs]; exact List.length_pmap
 have hzg : ∀ j, j < l1_3.length → (zs[j]!).1 = l1_3.getD j z63 := fun j hj => by
  rw [getElem!_pos zs j (by omega), List.getD_eq_getElem?_getD, List.getElem?_eq_getElem hj]
  simp [hzs]
 have hany : (zs.take l1_3.length).any (fun x => impl_inPiece.p k a0 a2_0 a2_1 a2_2 x.1) = l1_3.any (impl_inPiece.p k a0 a2_0 a2_1 a2_2) := by
  rw [List.take_of_length_le (by omega), hzs]
  rw [Bool.eq_iff_iff, List.any_eq_true, List.any_eq_true]
  constructor
  ·rintro ⟨x, hx, hpx⟩
   obtain ⟨y, hy, rfl⟩ := List.mem_pmap.1 hx
   exact ⟨y, hy, hpx⟩
  ·rintro ⟨y, hy, hpy⟩
   exact ⟨⟨y, hall' y hy⟩, List.mem_pmap.2 ⟨y, hy, rfl⟩, hpy⟩
 rw [← hany]
 refine AnyQ.slices_ContainsFunc (P := Try.prog) contains58 4 Try.isAgg63 Try.sizeOf63 (fun x : { x : S63 // (impl_holds.f k a0 x.f0.f0 x.f0.f1 x.f0.f2 a2_0 a2_1 a2_2).isSome = true } => impl_inPiece.enc x.1) (fun _ => rfl) (fun x => impl_inPiece.p k a0 a2_0 a2_1 a2_2 x.1) 59 #[.pointer (some ⟨w.heap.size + 2, 0, none⟩), .pointer (some ⟨w.heap.size, 0, none⟩)] (enters_of Try.func59 (by kernel_rfl) rfl) b off l1_3.length c1_3 zs w3
  (fun W x hW => ?_) (by omega) (by have := hr1_3.2.1; omega) (Nat.lt_of_lt_of_le hbw hB3.size) (fun j hj i v hi => ?_)
 ·obtain ⟨t, ht⟩ := Option.isSome_iff_exists.1 x.2
  have hp' : impl_inPiece.p k a0 a2_0 a2_1 a2_2 x.1 = (!(x.1.f0.f0 == a2_0 && (x.1.f0.f1 == a2_1 && (x.1.f0.f2 == a2_2))) && t) := by unfold impl_inPiece.p; rw [ht]; rfl
  have cell : ∀ (q i : Nat) (v : Value), q < w.heap.size + 3 → w3.cell? ⟨q, i, none⟩ = some v → W.cell? ⟨q, i, none⟩ = some v := fun q i v hq h => (hW.cell (p := ⟨q, i, none⟩) (by rw [s3]; exact hq)).trans h
  have e : ∀ y : Value, (#[y] ++ #[.pointer (some ⟨w.heap.size + 2, 0, none⟩), .pointer (some ⟨w.heap.size, 0, none⟩)] : Array Value) = #[y, .pointer (some ⟨w.heap.size + 2, 0, none⟩), .pointer (some ⟨w.heap.size, 0, none⟩)] := fun _ => by simp
  have h := impl_inPiece.one k a0 a2_0 a2_1 a2_2 x.1 t ht (w.heap.size + 2) w.heap.size W (cell _ _ _ (by omega) h0) (cell _ _ _ (by omega) h1) (cell _ _ _ (by omega) h2) (cell _ _ _ (by omega) hp) (by have := hW.size; omega) (by have := hW.size; omega)
  rw [← hp', ← e] at h
  refine h.mono ?_
  rintro e w' ⟨rfl, hb'⟩
  exact ⟨rfl, hW.trans (hb'.mono hW.size)⟩
 ·rw [hzl] at hj
  have h1 := hcells j hj i v (by rw [← hzg j hj]; exact hi)
  rw [Nat.add_assoc]
  exact (hB3.cell (p := ⟨b, off + (j * 4 + i), none⟩) hbw).trans h1
set_option maxHeartbeats 4000000 in
set_option maxRecDepth 100000 in
theorem impl_inPiece.calls (k : Nat) (a0 : Int) (a1_0 : Int) (a1_1 : Int) (a1_2 : Int) (A1_3 : Option Addr) (c1_3 : Nat) (l1_3 : List (S63)) (a2_0 : Int) (a2_1 : Int) (a2_2 : Int) (r : Bool) (w : World) (hr1_3 : Kd.C k63 w A1_3 l1_3.length l1_3) (hc1_3 : l1_3.length ≤ c1_3) (h : impl_inPiece.f k a0 a1_0 a1_1 a1_2 l1_3 a2_0 a2_1 a2_2 = some r) :
  Calls Try.prog 30 #[.int .i64 a0, .agg #[.int .i64 a1_0, .int .i64 a1_1, .int .i64 a1_2, .slice A1_3 l1_3.length c1_3], .agg #[.int .i64 a2_0, .int .i64 a2_1, .int .i64 a2_2]] w fun e w' => e = .returned (.bool r) ∧ Below w.heap.size w w' := by
 unfold impl_inPiece.f at h
 have hl : 0 < l1_3.length ∧ (l1_3.all fun x => (impl_holds.f k a0 x.f0.f0 x.f0.f1 x.f0.f2 a2_0 a2_1 a2_2).isSome) = true := Classical.byContradiction fun hn => by rw [if_neg hn] at h; cases h
 rw [if_pos hl] at h
 have hr := Option.some.inj h
 clear h
 obtain ⟨hl0, hall⟩ := hl
 rw [List.all_eq_true] at hall
 obtain ⟨ad, ca, rfl, hca, hKa, hcc⟩ := Kd.C_get hr1_3 z63 0 (by omega) (by omega)
 obtain ⟨b, off, sp⟩ := ad
 have hsp : sp = none := by
  cases sp with
  | none => rfl
  | some s_ =>
   obtain rfl := k63_open hKa
   have h1 := hcc 0 _ rfl
   simp only [Int.toNat_zero, Nat.zero_mul, Nat.zero_add, Nat.add_zero, Addr.add, if_true] at h1
   unfold World.cell? at h1
   split at h1 <;> simp at h1
 subst hsp
 clear hcc hKa hca
 have hcon := fun w3 h1 h2 h3 h4 h5 h6 => impl_inPiece.scan k a0 b off c1_3 l1_3 a2_0 a2_1 a2_2 w w3 hr1_3 hl0 hall h1 h2 h3 h4 h5 h6
 rw [hr] at hcon
 clear hall hr hr1_3
 go_enter Try.func30, Try.ntmps30
 go_wp2_with (go_at_call 58; refine (hcon _ ((((Below.refl _ w).alloc (Nat.le_refl _) _).alloc (by simp) _).alloc (by simp; omega) _) (by simp) ((cell_new_ _ _ _ _ (by simp) 0).trans rfl) ((cell_new_ _ _ _ _ (by simp) 1).trans rfl) ((cell_new_ _ _ _ _ (by simp) 2).trans rfl) (Lib.cell?_alloc_some _ (Lib.cell?_alloc_some _ ((cell_new_ _ _ _ _ rfl 0).trans rfl)))).mono ?_; rintro e w' ⟨rfl, hb'⟩)
 go_ret
 exact ⟨rfl, ((((Below.refl _ w).alloc (Nat.le_refl _) _).alloc (by simp) _).alloc (by simp; omega) _).trans (hb'.mono (by simp; omega))⟩
end Go.Proofs.Ytoiailmmgfokjaa.QC
