-- Written by a program of this session out of Lean's own print of the loaded program; Lean checks it.
import Derived.Test.YtoiailmmgfokjaaQCx6
import Derived.Test.YtoiailmmgfokjaaQCx33
import Derived.Test.YtoiailmmgfokjaaQCx36
import Derived.Test.YtoiailmmgfokjaaQCx53
namespace Go.Proofs.Ytoiailmmgfokjaa.QC
open Go.RowKit Go.Proofs.YtoiailmmgfokjaaW.PrintWords Go.Proofs.YtoiailmmgfokjaaW.PrintLast Go.Proofs.YtoiailmmgfokjaaW.PrintMore
attribute [local go_sem] isSome_setCell max2_int min2_int max_two min_two max_three min_three max_four min_four   -- for this text's walks alone
set_option linter.unusedVariables false
set_option linter.unusedSimpArgs false

/-! ### impl_total: function 31 -/
def impl_total.l0 : Nat → Int → Int → Bool → List (S63) → Int → Int → Int → Int → Int → Option (Int × Bool)
 | 0, _, _, _, _, _, _, _, _, _ => none
 | k + 1, x0, x8, x9, x13, x14, x15, x472000, x472001, x472002 => if x15 < x14 then (if 0 ≤ x15 then (if x15 < (x13.length : Int) then ((impl_holds.f k x0 x472000 x472001 x472002 ((rd_T63 x13 x15).f0.f0) ((rd_T63 x13 x15).f0.f1) ((rd_T63 x13 x15).f0.f2)).bind fun t474 => (if t474 = true then (if x9 = true then ((impl_isWeight.f k (([wrap64 (x8 + ((rd_T63 x13 x15).f1))] : List Int))).bind fun t478 => (impl_total.l0 k x0 (wrap64 (x8 + ((rd_T63 x13 x15).f1))) t478 x13 x14 (wrap64 (x15 + 1)) x472000 x472001 x472002)) else (impl_total.l0 k x0 (wrap64 (x8 + ((rd_T63 x13 x15).f1))) false x13 x14 (wrap64 (x15 + 1)) x472000 x472001 x472002)) else (impl_total.l0 k x0 x8 x9 x13 x14 (wrap64 (x15 + 1)) x472000 x472001 x472002))) else (none)) else (none)) else (some (x8, x9))
def impl_total.f (k : Nat) (a0 : Int) (a1_0 : Int) (a1_1 : Int) (a1_2 : Int) (l1_3 : List (S63)) (a2_0 : Int) (a2_1 : Int) (a2_2 : Int) : Option (Int × Bool) := impl_total.l0 k a0 0 true l1_3 (l1_3.length : Int) 0 a2_0 a2_1 a2_2
set_option maxHeartbeats 8000000 in
set_option maxRecDepth 100000 in
theorem impl_total.calls (k : Nat) (a0 : Int) (a1_0 : Int) (a1_1 : Int) (a1_2 : Int) (A1_3 : Option Addr) (c1_3 : Nat) (l1_3 : List (S63)) (a2_0 : Int) (a2_1 : Int) (a2_2 : Int) (r1 : Int) (r2 : Bool) (w : World) (hr1_3 : Kd.C k63 w A1_3 l1_3.length l1_3) (hc1_3 : l1_3.length ≤ c1_3) (h : impl_total.f k a0 a1_0 a1_1 a1_2 l1_3 a2_0 a2_1 a2_2 = some (r1, r2)) :
  Calls Try.prog 31 #[.int .i64 a0, .agg #[.int .i64 a1_0, .int .i64 a1_1, .int .i64 a1_2, .slice A1_3 l1_3.length c1_3], .agg #[.int .i64 a2_0, .int .i64 a2_1, .int .i64 a2_2]] w fun e w' => e = .returned (.tuple #[.int .i64 r1, .bool r2]) ∧ Below w.heap.size w w' := by
 have hu33 := Try.underlying33
 have hu30 := Try.underlying30
 have hu63 := Try.underlying63
 have HR1_3 := Aside0.mk hr1_3
 have HC1_3 := Aside0.mk hc1_3
 clear hr1_3 hc1_3
 have HB := Aside0.mk (Below.refl w.heap.size w)
 have H : (impl_total.l0 k a0 0 true l1_3 (l1_3.length : Int) 0 a2_0 a2_1 a2_2) = some (r1, r2) := h
 clear h
 have H' := Aside0.mk H
 clear H
 go_enter Try.func31, Try.ntmps31
 go_wp2_with (first | ((with_reducible refine gate_dst (N := 4) rfl ?_); (try (refine gate_guard (by rfl) ?_; dsimp only)); refine bx_ 4 #[.int .i64 a1_0, .int .i64 a1_1, .int .i64 a1_2, .slice A1_3 l1_3.length c1_3] 33 ?_; intro gb470 hg w4 hbox hb; have BK470 := Aside0.mk (hbox); have GW470 := bs_ HB hg; have GE470 := bs_ HB hg; replace HB := bt_ HB hb; clear hb hbox hg) | ((with_reducible refine gate_dst (N := 5) rfl ?_); (try (refine gate_guard (by rfl) ?_; dsimp only)); refine bx_ 5 #[.int .i64 a2_0, .int .i64 a2_1, .int .i64 a2_2] 30 ?_; intro gb471 hg w5 hbox hb; have BK471 := Aside0.mk (hbox); have GW471 := bs_ HB hg; have GE471 := bs_ HB hg; have NB470_471 := bm_ BK470 hg; have NB471_470 := bn_ BK470 hg; replace BK470 := bb_ BK470 hb; replace HB := bt_ HB hb; clear hb hbox hg; have hnb6 := NB470_471.out; have hnc6 := NB471_470.out; have hcz7_0 : w5.cell? ⟨gb470, 0, none⟩ = some (.int .i64 a1_0) := cz_ BK470 0; have hcz7_1 : w5.cell? ⟨gb470, 1, none⟩ = some (.int .i64 a1_1) := cz_ BK470 1; have hcz7_2 : w5.cell? ⟨gb470, 2, none⟩ = some (.int .i64 a1_2) := cz_ BK470 2; have hcz7_3 : w5.cell? ⟨gb470, 3, none⟩ = some (.slice A1_3 l1_3.length c1_3) := cz_ BK470 3; have hfz7_0 := fz_ BK470 0; have hfz7_1 := fz_ BK470 1; have hfz7_2 := fz_ BK470 2; have hfz7_3 := fz_ BK470 3))
 go_loopg [8, 9, 15] k (fun kq v8 v9 v15 w' => ∃ (x8_1 : Int) (x9_1 : Bool) (x15_1 : Int), v8 = .int .i64 x8_1 ∧ v9 = .bool x9_1 ∧ v15 = .int .i64 x15_1 ∧ Aside0 (impl_total.l0 kq a0 x8_1 x9_1 l1_3 (l1_3.length : Int) x15_1 a2_0 a2_1 a2_2 = some (r1, r2)) ∧ Aside0 (kq ≤ k) ∧ Aside0 (w'.heap[gb470]? = some (.cells #[.int .i64 a1_0, .int .i64 a1_1, .int .i64 a1_2, (.slice A1_3 l1_3.length c1_3)] 33 (0, 0))) ∧ Aside0 (w'.heap[gb471]? = some (.cells #[.int .i64 a2_0, .int .i64 a2_1, .int .i64 a2_2] 30 (0, 0))) ∧ Aside0 (Below w.heap.size w w'))
 case atStart => exact ⟨(0), (true), (0), (by first | rfl | (simp; done) | (simp [*]; done) | (simp [wrap64]; done)), (by first | rfl | (simp; done) | (simp [*]; done) | (simp [wrap64]; done)), (by first | rfl | (simp; done) | (simp [*]; done) | (simp [wrap64]; done)), H', ⟨Nat.le_refl _⟩, bl_ BK470, bl_ BK471, bw_ HB⟩
 case round =>
  clear H'
  try clear c1
  try clear p2
  try clear c3
  try clear c6
  try clear hcz7_0
  try clear hcz7_1
  try clear hcz7_2
  try clear hcz7_3
  try clear hfz7_0
  try clear hfz7_1
  try clear hfz7_2
  try clear hfz7_3
  obtain ⟨x8_1, x9_1, x15_1, rfl, rfl, rfl, HA, HK1, BK470, BK471, HB⟩ := hrel
  cases gk with
  | zero => exact absurd HA.out (by simp [impl_total.l0])
  | succ k1 =>
   have H := HA.out
   clear HA
   simp only [impl_total.l0] at H
   by_cases c8 : x15_1 < (l1_3.length : Int)
   ·rw [if_pos c8] at H
    have c8b0 : decide (x15_1 < (l1_3.length : Int)) = true := decide_eq_true c8
    clear c8
    by_cases c9 : 0 ≤ x15_1
    ·rw [if_pos c9] at H
     have c9b0 : decide (0 ≤ x15_1) = true := decide_eq_true c9
     clear c9
     by_cases c10 : x15_1 < (l1_3.length : Int)
     ·rw [if_pos c10] at H
      have c10b0 : decide (x15_1 < (l1_3.length : Int)) = true := decide_eq_true c10
      clear c10
      replace H := Option.bind_eq_some_iff.mp H
      obtain ⟨t474, A110, H⟩ := H
      have A11 := Aside0.mk A110
      clear A110
      by_cases c12 : t474 = true
      ·subst c12
       have H1 : (if x9_1 = true then ((impl_isWeight.f k1 (([wrap64 (x8_1 + ((rd_T63 l1_3 x15_1).f1))] : List Int))).bind fun t478 => (impl_total.l0 k1 a0 (wrap64 (x8_1 + ((rd_T63 l1_3 x15_1).f1))) t478 l1_3 (l1_3.length : Int) (wrap64 (x15_1 + 1)) a2_0 a2_1 a2_2)) else (impl_total.l0 k1 a0 (wrap64 (x8_1 + ((rd_T63 l1_3 x15_1).f1))) false l1_3 (l1_3.length : Int) (wrap64 (x15_1 + 1)) a2_0 a2_1 a2_2)) = some (r1, r2) := by rw [if_pos rfl] at H; exact H
       clear H
       have H := H1
       clear H1
       by_cases c13 : x9_1 = true
       ·subst c13
        have H1 : ((impl_isWeight.f k1 (([wrap64 (x8_1 + ((rd_T63 l1_3 x15_1).f1))] : List Int))).bind fun t478 => (impl_total.l0 k1 a0 (wrap64 (x8_1 + ((rd_T63 l1_3 x15_1).f1))) t478 l1_3 (l1_3.length : Int) (wrap64 (x15_1 + 1)) a2_0 a2_1 a2_2)) = some (r1, r2) := by rw [if_pos rfl] at H; exact H
        clear H
        have H := H1
        clear H1
        obtain ⟨y475, hy475⟩ : ∃ y_ : List Int, y_ = (([wrap64 (x8_1 + ((rd_T63 l1_3 x15_1).f1))] : List Int)) := ⟨_, rfl⟩
        replace H : ((impl_isWeight.f k1 y475).bind fun t478 => (impl_total.l0 k1 a0 (wrap64 (x8_1 + ((rd_T63 l1_3 x15_1).f1))) t478 l1_3 (l1_3.length : Int) (wrap64 (x15_1 + 1)) a2_0 a2_1 a2_2)) = some (r1, r2) := by first | (rw [hy475]; with_reducible exact H) | (have H2_ := (Option.bind_some _ _).symm.trans H; rw [hy475]; with_reducible exact H2_) | (have H2_ := (Option.bind_some _ _).symm.trans H; with_reducible exact H2_) | with_reducible exact H | (rw [hy475]; exact H) | exact H
        have Ny475 := Aside0.mk hy475
        clear hy475
        replace H := Option.bind_eq_some_iff.mp H
        obtain ⟨t478, A140, H⟩ := H
        have A14 := Aside0.mk A140
        clear A140
        have H' := Aside0.mk H
        clear H
        have p472 : 0 ≤ (x15_1 : Int) := of_decide_eq_true (by first | (with_reducible assumption) | assumption)
        have q472 : x15_1 < (l1_3.length : Int) := of_decide_eq_true (by first | (with_reducible assumption) | assumption)
        obtain ⟨ad472, e472, hx472_0, hx472_1, hx472_2, hx472_3⟩ := at_T63 HR1_3.out x15_1 p472 q472
        cases e472
        replace hx472_0 := clTr HB.out hx472_0
        replace hx472_1 := clTr HB.out hx472_1
        replace hx472_2 := clTr HB.out hx472_2
        replace hx472_3 := clTr HB.out hx472_3
        replace p472 := eq_true p472
        replace q472 := eq_true q472
        go_wp2_with (first | ((with_reducible refine gate_dst (N := 11) rfl ?_); (try (refine gate_guard (by rfl) ?_; dsimp only)); refine bx_ 11 #[.int .i64 0, .int .i64 0, .int .i64 0, .int .i64 0] 63 ?_; intro gb473 hg w15 hbox hb; have BK473 := Aside0.mk (hbox); have GW473 := bs_ HB hg; have GE473 := bs_ HB hg; have NB470_473 := bm_ BK470 hg; have NB473_470 := bn_ BK470 hg; have NB471_473 := bm_ BK471 hg; have NB473_471 := bn_ BK471 hg; replace BK470 := bb_ BK470 hb; replace BK471 := bb_ BK471 hb; replace HB := bt_ HB hb; clear hb hbox hg; have hnb16 := NB473_470.out; have hnc16 := NB470_473.out; have hnb17 := NB473_471.out; have hnc17 := NB471_473.out; have hcz18_0 : w15.cell? ⟨gb473, 0, none⟩ = some (.int .i64 0) := cz_ BK473 0; have hcz18_1 : w15.cell? ⟨gb473, 1, none⟩ = some (.int .i64 0) := cz_ BK473 1; have hcz18_2 : w15.cell? ⟨gb473, 2, none⟩ = some (.int .i64 0) := cz_ BK473 2; have hcz18_3 : w15.cell? ⟨gb473, 3, none⟩ = some (.int .i64 0) := cz_ BK473 3; have hfz18_0 := fz_ BK473 0; have hfz18_1 := fz_ BK473 1; have hfz18_2 := fz_ BK473 2; have hfz18_3 := fz_ BK473 3; have hnb19 := NB471_470.out; have hnc19 := NB470_471.out; have hcz20_0 : w15.cell? ⟨gb471, 0, none⟩ = some (.int .i64 a2_0) := cz_ BK471 0; have hcz20_1 : w15.cell? ⟨gb471, 1, none⟩ = some (.int .i64 a2_1) := cz_ BK471 1; have hcz20_2 : w15.cell? ⟨gb471, 2, none⟩ = some (.int .i64 a2_2) := cz_ BK471 2; have hfz20_0 := fz_ BK471 0; have hfz20_1 := fz_ BK471 1; have hfz20_2 := fz_ BK471 2) | ((with_reducible refine gate_callee (f := 57) rfl ?_); refine ge_ 23 Try.func57 #[.int .i64 a0, .agg #[.int .i64 a2_0, .int .i64 a2_1, .int .i64 a2_2], .agg #[.int .i64 ((rd_T63 l1_3 x15_1).f0.f0), .int .i64 ((rd_T63 l1_3 x15_1).f0.f1), .int .i64 ((rd_T63 l1_3 x15_1).f0.f2)]] ?_; (with_reducible refine (impl_holds.calls k1 a0 a2_0 a2_1 a2_2 ((rd_T63 l1_3 x15_1).f0.f0) ((rd_T63 l1_3 x15_1).f0.f1) ((rd_T63 l1_3 x15_1).f0.f2) true _ A11.out).mono ?_); rintro e w21 ⟨rfl, hb⟩; refine ⟨_, rfl, ?_⟩; replace BK470 := fb_ BK470 NB470_473 hb; replace BK471 := fb_ BK471 NB471_473 hb; replace BK473 := Aside0.mk (blk_below (g := gb473) (o := .cells #[.int .i64 ((rd_T63 l1_3 x15_1).f0.f0), .int .i64 ((rd_T63 l1_3 x15_1).f0.f1), .int .i64 ((rd_T63 l1_3 x15_1).f0.f2), .int .i64 ((rd_T63 l1_3 x15_1).f1)] 63 (0, 0)) (by (with_reducible repeat first | apply blk_drewN | apply blk_drew | apply blk_alloc); refine blk_put (cs := #[.int .i64 ((rd_T63 l1_3 x15_1).f0.f0), .int .i64 ((rd_T63 l1_3 x15_1).f0.f1), .int .i64 ((rd_T63 l1_3 x15_1).f0.f2), .int .i64 0]) ?_ 3 _ rfl; (with_reducible repeat first | apply blk_drewN | apply blk_drew | apply blk_alloc); refine blk_put (cs := #[.int .i64 ((rd_T63 l1_3 x15_1).f0.f0), .int .i64 ((rd_T63 l1_3 x15_1).f0.f1), .int .i64 0, .int .i64 0]) ?_ 2 _ rfl; (with_reducible repeat first | apply blk_drewN | apply blk_drew | apply blk_alloc); refine blk_put (cs := #[.int .i64 ((rd_T63 l1_3 x15_1).f0.f0), .int .i64 0, .int .i64 0, .int .i64 0]) ?_ 1 _ rfl; (with_reducible repeat first | apply blk_drewN | apply blk_drew | apply blk_alloc); refine blk_put (cs := #[.int .i64 0, .int .i64 0, .int .i64 0, .int .i64 0]) ?_ 0 _ rfl; (with_reducible repeat first | apply blk_drewN | apply blk_drew | apply blk_alloc); exact BK473.out) hb); replace HB := bt_ HB hb; (try clear hb); (try clear hb2); (try clear hk); (try clear hi); have hcz22_0 : w21.cell? ⟨gb473, 0, none⟩ = some (.int .i64 ((rd_T63 l1_3 x15_1).f0.f0)) := cz_ BK473 0; have hcz22_1 : w21.cell? ⟨gb473, 1, none⟩ = some (.int .i64 ((rd_T63 l1_3 x15_1).f0.f1)) := cz_ BK473 1; have hcz22_2 : w21.cell? ⟨gb473, 2, none⟩ = some (.int .i64 ((rd_T63 l1_3 x15_1).f0.f2)) := cz_ BK473 2; have hcz22_3 : w21.cell? ⟨gb473, 3, none⟩ = some (.int .i64 ((rd_T63 l1_3 x15_1).f1)) := cz_ BK473 3; have hfz22_0 := fz_ BK473 0; have hfz22_1 := fz_ BK473 1; have hfz22_2 := fz_ BK473 2; have hfz22_3 := fz_ BK473 3) | ((with_reducible refine gate_dst (N := 31) rfl ?_); (try (refine gate_guard (by rfl) ?_; dsimp only)); refine Kd.R_lit (Kd.int .i64) _ 2 ?hg (N := 31) ?hd (xs := ([wrap64 (x8_1 + ((rd_T63 l1_3 x15_1).f1))] : List Int)) (inner := [.int .i64 (wrap64 (x8_1 + ((rd_T63 l1_3 x15_1).f1)))]) (ok := fun _ => True) (okp := fun _ => True) ?hr ?hp (fun _ hk => hk) trivial (Below.refl _ _) (Nat.le_refl _) (by simp) ?_; (case hd => rfl); (case hg => rfl); (case hr => first | (go_simp; done) | (go_simp; rfl)); (case hp => exact (Reps.one (show Kd.M (Kd.int .i64) _ _ _ (wrap64 (x8_1 + ((rd_T63 l1_3 x15_1).f1))) [.int .i64 (wrap64 (x8_1 + ((rd_T63 l1_3 x15_1).f1)))] from rfl) (Reps.none _ _))); intro v476 w23 ho24 hb hg_ hnew_; clear hg_ hnew_; (first | rw [← Ny475.out] at ho24 | (simp only [Int.reduceToNat] at ho24; rw [← Ny475.out] at ho24)); have HO477 := Aside0.mk (Kd.R_lower ho24 (below_size (bw_ HB).out)); replace BK470 := bb_ BK470 hb; replace BK471 := bb_ BK471 hb; replace BK473 := bb_ BK473 hb; replace HB := bt_ HB hb; clear hb ho24; obtain ⟨Ao25, co25, eo25⟩ := Kd.R_slice HO477.out; subst eo25) | (go_at_call 38; (with_reducible refine (impl_isWeight.calls k1 _ _ y475 t478 _ ?side1 ?side2 A14.out).mono ?_); (case side1 => repeat (first | exact (Kd.R_reads' HO477.out).2.2 | (with_reducible refine Kd.C_alloc ?_ _) | (with_reducible refine Kd.C_drewN ?_ _) | (with_reducible refine Kd.C_drew ?_))); (case side2 => exact (Kd.R_reads' HO477.out).2.1); rintro e w' ⟨rfl, ⟨nd, rfl⟩⟩))
        go_roundg k1
        case measure => have := HK1.out; omega
        case rel => exact ⟨(wrap64 (x8_1 + ((rd_T63 l1_3 x15_1).f1))), (t478), (wrap64 (x15_1 + 1)), (by first | rfl | (simp; done) | (simp [*]; done) | (simp [wrap64]; done)), (by first | rfl | (simp; done) | (simp [*]; done) | (simp [wrap64]; done)), (by first | rfl | (simp; done) | (simp [*]; done) | (simp [wrap64]; done)), H', ⟨by have := HK1.out; omega⟩, bl_ BK470, bl_ BK471, bw_ HB⟩
       ·replace c13 := Bool.eq_false_iff.mpr c13
        subst c13
        have H1 : (impl_total.l0 k1 a0 (wrap64 (x8_1 + ((rd_T63 l1_3 x15_1).f1))) false l1_3 (l1_3.length : Int) (wrap64 (x15_1 + 1)) a2_0 a2_1 a2_2) = some (r1, r2) := by rw [if_neg (show ¬ (false = true) by decide)] at H; exact H
        clear H
        have H := H1
        clear H1
        have H' := Aside0.mk H
        clear H
        have p472 : 0 ≤ (x15_1 : Int) := of_decide_eq_true (by first | (with_reducible assumption) | assumption)
        have q472 : x15_1 < (l1_3.length : Int) := of_decide_eq_true (by first | (with_reducible assumption) | assumption)
        obtain ⟨ad472, e472, hx472_0, hx472_1, hx472_2, hx472_3⟩ := at_T63 HR1_3.out x15_1 p472 q472
        cases e472
        replace hx472_0 := clTr HB.out hx472_0
        replace hx472_1 := clTr HB.out hx472_1
        replace hx472_2 := clTr HB.out hx472_2
        replace hx472_3 := clTr HB.out hx472_3
        replace p472 := eq_true p472
        replace q472 := eq_true q472
        go_wp2_with (first | ((with_reducible refine gate_dst (N := 11) rfl ?_); (try (refine gate_guard (by rfl) ?_; dsimp only)); refine bx_ 11 #[.int .i64 0, .int .i64 0, .int .i64 0, .int .i64 0] 63 ?_; intro gb473 hg w26 hbox hb; have BK473 := Aside0.mk (hbox); have GW473 := bs_ HB hg; have GE473 := bs_ HB hg; have NB470_473 := bm_ BK470 hg; have NB473_470 := bn_ BK470 hg; have NB471_473 := bm_ BK471 hg; have NB473_471 := bn_ BK471 hg; replace BK470 := bb_ BK470 hb; replace BK471 := bb_ BK471 hb; replace HB := bt_ HB hb; clear hb hbox hg; have hnb27 := NB473_470.out; have hnc27 := NB470_473.out; have hnb28 := NB473_471.out; have hnc28 := NB471_473.out; have hcz29_0 : w26.cell? ⟨gb473, 0, none⟩ = some (.int .i64 0) := cz_ BK473 0; have hcz29_1 : w26.cell? ⟨gb473, 1, none⟩ = some (.int .i64 0) := cz_ BK473 1; have hcz29_2 : w26.cell? ⟨gb473, 2, none⟩ = some (.int .i64 0) := cz_ BK473 2; have hcz29_3 : w26.cell? ⟨gb473, 3, none⟩ = some (.int .i64 0) := cz_ BK473 3; have hfz29_0 := fz_ BK473 0; have hfz29_1 := fz_ BK473 1; have hfz29_2 := fz_ BK473 2; have hfz29_3 := fz_ BK473 3; have hnb30 := NB471_470.out; have hnc30 := NB470_471.out; have hcz31_0 : w26.cell? ⟨gb471, 0, none⟩ = some (.int .i64 a2_0) := cz_ BK471 0; have hcz31_1 : w26.cell? ⟨gb471, 1, none⟩ = some (.int .i64 a2_1) := cz_ BK471 1; have hcz31_2 : w26.cell? ⟨gb471, 2, none⟩ = some (.int .i64 a2_2) := cz_ BK471 2; have hfz31_0 := fz_ BK471 0; have hfz31_1 := fz_ BK471 1; have hfz31_2 := fz_ BK471 2) | ((with_reducible refine gate_callee (f := 57) rfl ?_); refine ge_ 23 Try.func57 #[.int .i64 a0, .agg #[.int .i64 a2_0, .int .i64 a2_1, .int .i64 a2_2], .agg #[.int .i64 ((rd_T63 l1_3 x15_1).f0.f0), .int .i64 ((rd_T63 l1_3 x15_1).f0.f1), .int .i64 ((rd_T63 l1_3 x15_1).f0.f2)]] ?_; (with_reducible refine (impl_holds.calls k1 a0 a2_0 a2_1 a2_2 ((rd_T63 l1_3 x15_1).f0.f0) ((rd_T63 l1_3 x15_1).f0.f1) ((rd_T63 l1_3 x15_1).f0.f2) true _ A11.out).mono ?_); rintro e w32 ⟨rfl, hb⟩; refine ⟨_, rfl, ?_⟩; replace BK470 := fb_ BK470 NB470_473 hb; replace BK471 := fb_ BK471 NB471_473 hb; replace BK473 := Aside0.mk (blk_below (g := gb473) (o := .cells #[.int .i64 ((rd_T63 l1_3 x15_1).f0.f0), .int .i64 ((rd_T63 l1_3 x15_1).f0.f1), .int .i64 ((rd_T63 l1_3 x15_1).f0.f2), .int .i64 ((rd_T63 l1_3 x15_1).f1)] 63 (0, 0)) (by (with_reducible repeat first | apply blk_drewN | apply blk_drew | apply blk_alloc); refine blk_put (cs := #[.int .i64 ((rd_T63 l1_3 x15_1).f0.f0), .int .i64 ((rd_T63 l1_3 x15_1).f0.f1), .int .i64 ((rd_T63 l1_3 x15_1).f0.f2), .int .i64 0]) ?_ 3 _ rfl; (with_reducible repeat first | apply blk_drewN | apply blk_drew | apply blk_alloc); refine blk_put (cs := #[.int .i64 ((rd_T63 l1_3 x15_1).f0.f0), .int .i64 ((rd_T63 l1_3 x15_1).f0.f1), .int .i64 0, .int .i64 0]) ?_ 2 _ rfl; (with_reducible repeat first | apply blk_drewN | apply blk_drew | apply blk_alloc); refine blk_put (cs := #[.int .i64 ((rd_T63 l1_3 x15_1).f0.f0), .int .i64 0, .int .i64 0, .int .i64 0]) ?_ 1 _ rfl; (with_reducible repeat first | apply blk_drewN | apply blk_drew | apply blk_alloc); refine blk_put (cs := #[.int .i64 0, .int .i64 0, .int .i64 0, .int .i64 0]) ?_ 0 _ rfl; (with_reducible repeat first | apply blk_drewN | apply blk_drew | apply blk_alloc); exact BK473.out) hb); replace HB := bt_ HB hb; (try clear hb); (try clear hb2); (try clear hk); (try clear hi); have hcz33_0 : w32.cell? ⟨gb473, 0, none⟩ = some (.int .i64 ((rd_T63 l1_3 x15_1).f0.f0)) := cz_ BK473 0; have hcz33_1 : w32.cell? ⟨gb473, 1, none⟩ = some (.int .i64 ((rd_T63 l1_3 x15_1).f0.f1)) := cz_ BK473 1; have hcz33_2 : w32.cell? ⟨gb473, 2, none⟩ = some (.int .i64 ((rd_T63 l1_3 x15_1).f0.f2)) := cz_ BK473 2; have hcz33_3 : w32.cell? ⟨gb473, 3, none⟩ = some (.int .i64 ((rd_T63 l1_3 x15_1).f1)) := cz_ BK473 3; have hfz33_0 := fz_ BK473 0; have hfz33_1 := fz_ BK473 1; have hfz33_2 := fz_ BK473 2; have hfz33_3 := fz_ BK473 3))
        go_roundg k1
        case measure => have := HK1.out; omega
        case rel => exact ⟨(wrap64 (x8_1 + ((rd_T63 l1_3 x15_1).f1))), (false), (wrap64 (x15_1 + 1)), (by first | rfl | (simp; done) | (simp [*]; done) | (simp [wrap64]; done)), (by first | rfl | (simp; done) | (simp [*]; done) | (simp [wrap64]; done)), (by first | rfl | (simp; done) | (simp [*]; done) | (simp [wrap64]; done)), H', ⟨by have := HK1.out; omega⟩, bl_ BK470, bl_ BK471, bw_ HB⟩
      ·replace c12 := Bool.eq_false_iff.mpr c12
       subst c12
       have H1 : (impl_total.l0 k1 a0 x8_1 x9_1 l1_3 (l1_3.length : Int) (wrap64 (x15_1 + 1)) a2_0 a2_1 a2_2) = some (r1, r2) := by rw [if_neg (show ¬ (false = true) by decide)] at H; exact H
       clear H
       have H := H1
       clear H1
       have H' := Aside0.mk H
       clear H
       have p472 : 0 ≤ (x15_1 : Int) := of_decide_eq_true (by first | (with_reducible assumption) | assumption)
       have q472 : x15_1 < (l1_3.length : Int) := of_decide_eq_true (by first | (with_reducible assumption) | assumption)
       obtain ⟨ad472, e472, hx472_0, hx472_1, hx472_2, hx472_3⟩ := at_T63 HR1_3.out x15_1 p472 q472
       cases e472
       replace hx472_0 := clTr HB.out hx472_0
       replace hx472_1 := clTr HB.out hx472_1
       replace hx472_2 := clTr HB.out hx472_2
       replace hx472_3 := clTr HB.out hx472_3
       replace p472 := eq_true p472
       replace q472 := eq_true q472
       go_wp2_with (first | ((with_reducible refine gate_dst (N := 11) rfl ?_); (try (refine gate_guard (by rfl) ?_; dsimp only)); refine bx_ 11 #[.int .i64 0, .int .i64 0, .int .i64 0, .int .i64 0] 63 ?_; intro gb473 hg w34 hbox hb; have BK473 := Aside0.mk (hbox); have GW473 := bs_ HB hg; have GE473 := bs_ HB hg; have NB470_473 := bm_ BK470 hg; have NB473_470 := bn_ BK470 hg; have NB471_473 := bm_ BK471 hg; have NB473_471 := bn_ BK471 hg; replace BK470 := bb_ BK470 hb; replace BK471 := bb_ BK471 hb; replace HB := bt_ HB hb; clear hb hbox hg; have hnb35 := NB473_470.out; have hnc35 := NB470_473.out; have hnb36 := NB473_471.out; have hnc36 := NB471_473.out; have hcz37_0 : w34.cell? ⟨gb473, 0, none⟩ = some (.int .i64 0) := cz_ BK473 0; have hcz37_1 : w34.cell? ⟨gb473, 1, none⟩ = some (.int .i64 0) := cz_ BK473 1; have hcz37_2 : w34.cell? ⟨gb473, 2, none⟩ = some (.int .i64 0) := cz_ BK473 2; have hcz37_3 : w34.cell? ⟨gb473, 3, none⟩ = some (.int .i64 0) := cz_ BK473 3; have hfz37_0 := fz_ BK473 0; have hfz37_1 := fz_ BK473 1; have hfz37_2 := fz_ BK473 2; have hfz37_3 := fz_ BK473 3; have hnb38 := NB471_470.out; have hnc38 := NB470_471.out; have hcz39_0 : w34.cell? ⟨gb471, 0, none⟩ = some (.int .i64 a2_0) := cz_ BK471 0; have hcz39_1 : w34.cell? ⟨gb471, 1, none⟩ = some (.int .i64 a2_1) := cz_ BK471 1; have hcz39_2 : w34.cell? ⟨gb471, 2, none⟩ = some (.int .i64 a2_2) := cz_ BK471 2; have hfz39_0 := fz_ BK471 0; have hfz39_1 := fz_ BK471 1; have hfz39_2 := fz_ BK471 2) | ((with_reducible refine gate_callee (f := 57) rfl ?_); refine ge_ 23 Try.func57 #[.int .i64 a0, .agg #[.int .i64 a2_0, .int .i64 a2_1, .int .i64 a2_2], .agg #[.int .i64 ((rd_T63 l1_3 x15_1).f0.f0), .int .i64 ((rd_T63 l1_3 x15_1).f0.f1), .int .i64 ((rd_T63 l1_3 x15_1).f0.f2)]] ?_; (with_reducible refine (impl_holds.calls k1 a0 a2_0 a2_1 a2_2 ((rd_T63 l1_3 x15_1).f0.f0) ((rd_T63 l1_3 x15_1).f0.f1) ((rd_T63 l1_3 x15_1).f0.f2) false _ A11.out).mono ?_); rintro e w40 ⟨rfl, hb⟩; refine ⟨_, rfl, ?_⟩; replace BK470 := fb_ BK470 NB470_473 hb; replace BK471 := fb_ BK471 NB471_473 hb; replace BK473 := Aside0.mk (blk_below (g := gb473) (o := .cells #[.int .i64 ((rd_T63 l1_3 x15_1).f0.f0), .int .i64 ((rd_T63 l1_3 x15_1).f0.f1), .int .i64 ((rd_T63 l1_3 x15_1).f0.f2), .int .i64 ((rd_T63 l1_3 x15_1).f1)] 63 (0, 0)) (by (with_reducible repeat first | apply blk_drewN | apply blk_drew | apply blk_alloc); refine blk_put (cs := #[.int .i64 ((rd_T63 l1_3 x15_1).f0.f0), .int .i64 ((rd_T63 l1_3 x15_1).f0.f1), .int .i64 ((rd_T63 l1_3 x15_1).f0.f2), .int .i64 0]) ?_ 3 _ rfl; (with_reducible repeat first | apply blk_drewN | apply blk_drew | apply blk_alloc); refine blk_put (cs := #[.int .i64 ((rd_T63 l1_3 x15_1).f0.f0), .int .i64 ((rd_T63 l1_3 x15_1).f0.f1), .int .i64 0, .int .i64 0]) ?_ 2 _ rfl; (with_reducible repeat first | apply blk_drewN | apply blk_drew | apply blk_alloc); refine blk_put (cs := #[.int .i64 ((rd_T63 l1_3 x15_1).f0.f0), .int .i64 0, .int .i64 0, .int .i64 0]) ?_ 1 _ rfl; (with_reducible repeat first | apply blk_drewN | apply blk_drew | apply blk_alloc); refine blk_put (cs := #[.int .i64 0, .int .i64 0, .int .i64 0, .int .i64 0]) ?_ 0 _ rfl; (with_reducible repeat first | apply blk_drewN | apply blk_drew | apply blk_alloc); exact BK473.out) hb); replace HB := bt_ HB hb; (try clear hb); (try clear hb2); (try clear hk); (try clear hi)))
       go_roundg k1
       case measure => have := HK1.out; omega
       case rel => exact ⟨(x8_1), (x9_1), (wrap64 (x15_1 + 1)), (by first | rfl | (simp; done) | (simp [*]; done) | (simp [wrap64]; done)), (by first | rfl | (simp; done) | (simp [*]; done) | (simp [wrap64]; done)), (by first | rfl | (simp; done) | (simp [*]; done) | (simp [wrap64]; done)), H', ⟨by have := HK1.out; omega⟩, bl_ BK470, bl_ BK471, bw_ HB⟩
     ·rw [if_neg c10] at H
      exact absurd H (by simp)
    ·rw [if_neg c9] at H
     exact absurd H (by simp)
   ·rw [if_neg c8] at H
    have c8b0 : decide (x15_1 < (l1_3.length : Int)) = false := decide_eq_false c8
    clear c8
    simp only [Option.some.injEq, Prod.mk.injEq] at H
    obtain ⟨rfl, rfl⟩ := H
    go_wp2
    go_ret2
    exact ⟨by first | rfl | (simp [errW_none, errW_some] <;> rfl) | (simp [*, errW_none, errW_some] <;> rfl), by repeat (first | (with_reducible first | exact HB.out | apply below_alloc | apply pw_below_drewN | apply below_drew1 | refine below_set ?_ GE470.out | refine below_set ?_ GE471.out) | exact HB.out)⟩
/-! ### impl_WeightOf: function 11 -/
def impl_WeightOf.f (k : Nat) (a0 : Int) (a1_0 : Int) (a1_1 : Int) (a1_2 : Int) (l1_3 : List (S63)) (a2_0 : Int) (a2_1 : Int) (a2_2 : Int) : Option (Int × Int) := (impl_measureCode.f k a0 a1_0 a1_1 a1_2 l1_3 a2_0 a2_1 a2_2).bind fun t481 => (if t481 = 0 then ((impl_inPiece.f k a0 a1_0 a1_1 a1_2 l1_3 a2_0 a2_1 a2_2).bind fun t482 => (if t482 = true then (some (0, 5)) else ((impl_total.f k a0 a1_0 a1_1 a1_2 l1_3 a2_0 a2_1 a2_2).bind fun bt483 => (some (bt483.1, 0))))) else (some (0, t481)))
set_option maxHeartbeats 8000000 in
set_option maxRecDepth 100000 in
theorem impl_WeightOf.calls (k : Nat) (a0 : Int) (a1_0 : Int) (a1_1 : Int) (a1_2 : Int) (A1_3 : Option Addr) (c1_3 : Nat) (l1_3 : List (S63)) (a2_0 : Int) (a2_1 : Int) (a2_2 : Int) (r1 : Int) (r2 : Int) (w : World) (hr1_3 : Kd.C k63 w A1_3 l1_3.length l1_3) (hc1_3 : l1_3.length ≤ c1_3) (h : impl_WeightOf.f k a0 a1_0 a1_1 a1_2 l1_3 a2_0 a2_1 a2_2 = some (r1, r2)) :
  Calls Try.prog 11 #[.int .i64 a0, .agg #[.int .i64 a1_0, .int .i64 a1_1, .int .i64 a1_2, .slice A1_3 l1_3.length c1_3], .agg #[.int .i64 a2_0, .int .i64 a2_1, .int .i64 a2_2]] w fun e w' => e = .returned (.tuple #[.int .i64 r1, .int .i64 r2]) ∧ Below w.heap.size w w' := by
 have hu33 := Try.underlying33
 have hu30 := Try.underlying30
 have HR1_3 := Aside0.mk hr1_3
 have HC1_3 := Aside0.mk hc1_3
 clear hr1_3 hc1_3
 have HB := Aside0.mk (Below.refl w.heap.size w)
 have H : ((impl_measureCode.f k a0 a1_0 a1_1 a1_2 l1_3 a2_0 a2_1 a2_2).bind fun t481 => (if t481 = 0 then ((impl_inPiece.f k a0 a1_0 a1_1 a1_2 l1_3 a2_0 a2_1 a2_2).bind fun t482 => (if t482 = true then (some (0, 5)) else ((impl_total.f k a0 a1_0 a1_1 a1_2 l1_3 a2_0 a2_1 a2_2).bind fun bt483 => (some (bt483.1, 0))))) else (some (0, t481)))) = some (r1, r2) := h
 clear h
 replace H := Option.bind_eq_some_iff.mp H
 obtain ⟨t481, A40, H⟩ := H
 have A4 := Aside0.mk A40
 clear A40
 by_cases c5 : t481 = 0
 ·rw [if_pos c5] at H
  have c5b0 : (t481 == 0) = true := beq_iff_eq.mpr c5
  have c5b1 : (t481 != 0) = false := bne_eq_false_iff_eq.mpr c5
  clear c5
  replace H := Option.bind_eq_some_iff.mp H
  obtain ⟨t482, A60, H⟩ := H
  have A6 := Aside0.mk A60
  clear A60
  by_cases c7 : t482 = true
  ·subst c7
   have H1 : (some (0, 5)) = some (r1, r2) := by rw [if_pos rfl] at H; exact H
   clear H
   have H := H1
   clear H1
   simp only [Option.some.injEq, Prod.mk.injEq] at H
   obtain ⟨rfl, rfl⟩ := H
   go_enter Try.func11, Try.ntmps11
   go_wp2_with (first | ((with_reducible refine gate_dst (N := 4) rfl ?_); refine bx_ 4 #[.int .i64 a1_0, .int .i64 a1_1, .int .i64 a1_2, .slice A1_3 l1_3.length c1_3] 33 ?_; intro gb479 hg w8 hbox hb; have BK479 := Aside0.mk (hbox); have GW479 := bs_ HB hg; have GE479 := bs_ HB hg; replace HB := bt_ HB hb; clear hb hbox hg) | ((with_reducible refine gate_dst (N := 5) rfl ?_); refine bx_ 5 #[.int .i64 a2_0, .int .i64 a2_1, .int .i64 a2_2] 30 ?_; intro gb480 hg w9 hbox hb; have BK480 := Aside0.mk (hbox); have GW480 := bs_ HB hg; have GE480 := bs_ HB hg; have NB479_480 := bm_ BK479 hg; have NB480_479 := bn_ BK479 hg; replace BK479 := bb_ BK479 hb; replace HB := bt_ HB hb; clear hb hbox hg; have hnb10 := NB479_480.out; have hnc10 := NB480_479.out; have hcz11_0 : w9.cell? ⟨gb479, 0, none⟩ = some (.int .i64 a1_0) := cz_ BK479 0; have hcz11_1 : w9.cell? ⟨gb479, 1, none⟩ = some (.int .i64 a1_1) := cz_ BK479 1; have hcz11_2 : w9.cell? ⟨gb479, 2, none⟩ = some (.int .i64 a1_2) := cz_ BK479 2; have hcz11_3 : w9.cell? ⟨gb479, 3, none⟩ = some (.slice A1_3 l1_3.length c1_3) := cz_ BK479 3; have hfz11_0 := fz_ BK479 0; have hfz11_1 := fz_ BK479 1; have hfz11_2 := fz_ BK479 2; have hfz11_3 := fz_ BK479 3; have hcz12_0 : w9.cell? ⟨gb480, 0, none⟩ = some (.int .i64 a2_0) := cz_ BK480 0; have hcz12_1 : w9.cell? ⟨gb480, 1, none⟩ = some (.int .i64 a2_1) := cz_ BK480 1; have hcz12_2 : w9.cell? ⟨gb480, 2, none⟩ = some (.int .i64 a2_2) := cz_ BK480 2; have hfz12_0 := fz_ BK480 0; have hfz12_1 := fz_ BK480 1; have hfz12_2 := fz_ BK480 2) | ((with_reducible refine gate_callee (f := 29) rfl ?_); refine ge_ 14 Try.func29 #[.int .i64 a0, .agg #[.int .i64 a1_0, .int .i64 a1_1, .int .i64 a1_2, .slice A1_3 l1_3.length c1_3], .agg #[.int .i64 a2_0, .int .i64 a2_1, .int .i64 a2_2]] ?_; (with_reducible refine (impl_measureCode.calls k a0 a1_0 a1_1 a1_2 _ _ l1_3 a2_0 a2_1 a2_2 t481 _ ?side1 ?side2 A4.out).mono ?_); (case side1 => repeat (first | exact (Kd.C_below HR1_3.out HB.out) | (with_reducible refine Kd.C_alloc ?_ _) | (with_reducible refine Kd.C_drewN ?_ _) | (with_reducible refine Kd.C_drew ?_))); (case side2 => exact HC1_3.out); rintro e w13 ⟨rfl, hb⟩; refine ⟨_, rfl, ?_⟩; replace BK479 := bb_ BK479 hb; replace BK480 := bb_ BK480 hb; replace HB := bt_ HB hb; (try clear hb); (try clear hb2); (try clear hk); (try clear hi); have hcz14_0 : w13.cell? ⟨gb479, 0, none⟩ = some (.int .i64 a1_0) := cz_ BK479 0; have hcz14_1 : w13.cell? ⟨gb479, 1, none⟩ = some (.int .i64 a1_1) := cz_ BK479 1; have hcz14_2 : w13.cell? ⟨gb479, 2, none⟩ = some (.int .i64 a1_2) := cz_ BK479 2; have hcz14_3 : w13.cell? ⟨gb479, 3, none⟩ = some (.slice A1_3 l1_3.length c1_3) := cz_ BK479 3; have hfz14_0 := fz_ BK479 0; have hfz14_1 := fz_ BK479 1; have hfz14_2 := fz_ BK479 2; have hfz14_3 := fz_ BK479 3; have hcz15_0 : w13.cell? ⟨gb480, 0, none⟩ = some (.int .i64 a2_0) := cz_ BK480 0; have hcz15_1 : w13.cell? ⟨gb480, 1, none⟩ = some (.int .i64 a2_1) := cz_ BK480 1; have hcz15_2 : w13.cell? ⟨gb480, 2, none⟩ = some (.int .i64 a2_2) := cz_ BK480 2; have hfz15_0 := fz_ BK480 0; have hfz15_1 := fz_ BK480 1; have hfz15_2 := fz_ BK480 2) | ((with_reducible refine gate_callee (f := 30) rfl ?_); refine ge_ 21 Try.func30 #[.int .i64 a0, .agg #[.int .i64 a1_0, .int .i64 a1_1, .int .i64 a1_2, .slice A1_3 l1_3.length c1_3], .agg #[.int .i64 a2_0, .int .i64 a2_1, .int .i64 a2_2]] ?_; (with_reducible refine (impl_inPiece.calls k a0 a1_0 a1_1 a1_2 _ _ l1_3 a2_0 a2_1 a2_2 true _ ?side1 ?side2 A6.out).mono ?_); (case side1 => repeat (first | exact (Kd.C_below HR1_3.out HB.out) | (with_reducible refine Kd.C_alloc ?_ _) | (with_reducible refine Kd.C_drewN ?_ _) | (with_reducible refine Kd.C_drew ?_))); (case side2 => exact HC1_3.out); rintro e w16 ⟨rfl, hb⟩; refine ⟨_, rfl, ?_⟩; replace BK479 := bb_ BK479 hb; replace BK480 := bb_ BK480 hb; replace HB := bt_ HB hb; (try clear hb); (try clear hb2); (try clear hk); (try clear hi)))
   go_ret2
   exact ⟨by first | rfl | (simp [errW_none, errW_some] <;> rfl) | (simp [*, errW_none, errW_some] <;> rfl), by repeat (first | (with_reducible first | exact HB.out | apply below_alloc | apply pw_below_drewN | apply below_drew1 | refine below_set ?_ GE479.out | refine below_set ?_ GE480.out) | exact HB.out)⟩
  ·replace c7 := Bool.eq_false_iff.mpr c7
   subst c7
   have H1 : ((impl_total.f k a0 a1_0 a1_1 a1_2 l1_3 a2_0 a2_1 a2_2).bind fun bt483 => (some (bt483.1, 0))) = some (r1, r2) := by rw [if_neg (show ¬ (false = true) by decide)] at H; exact H
   clear H
   have H := H1
   clear H1
   replace H := Option.bind_eq_some_iff.mp H
   obtain ⟨⟨t483, t484⟩, A170, H⟩ := H
   have A17 := Aside0.mk A170
   clear A170
   simp only [Option.some.injEq, Prod.mk.injEq] at H
   obtain ⟨rfl, rfl⟩ := H
   go_enter Try.func11, Try.ntmps11
   go_wp2_with (first | ((with_reducible refine gate_dst (N := 4) rfl ?_); refine bx_ 4 #[.int .i64 a1_0, .int .i64 a1_1, .int .i64 a1_2, .slice A1_3 l1_3.length c1_3] 33 ?_; intro gb479 hg w18 hbox hb; have BK479 := Aside0.mk (hbox); have GW479 := bs_ HB hg; have GE479 := bs_ HB hg; replace HB := bt_ HB hb; clear hb hbox hg) | ((with_reducible refine gate_dst (N := 5) rfl ?_); refine bx_ 5 #[.int .i64 a2_0, .int .i64 a2_1, .int .i64 a2_2] 30 ?_; intro gb480 hg w19 hbox hb; have BK480 := Aside0.mk (hbox); have GW480 := bs_ HB hg; have GE480 := bs_ HB hg; have NB479_480 := bm_ BK479 hg; have NB480_479 := bn_ BK479 hg; replace BK479 := bb_ BK479 hb; replace HB := bt_ HB hb; clear hb hbox hg; have hnb20 := NB479_480.out; have hnc20 := NB480_479.out; have hcz21_0 : w19.cell? ⟨gb479, 0, none⟩ = some (.int .i64 a1_0) := cz_ BK479 0; have hcz21_1 : w19.cell? ⟨gb479, 1, none⟩ = some (.int .i64 a1_1) := cz_ BK479 1; have hcz21_2 : w19.cell? ⟨gb479, 2, none⟩ = some (.int .i64 a1_2) := cz_ BK479 2; have hcz21_3 : w19.cell? ⟨gb479, 3, none⟩ = some (.slice A1_3 l1_3.length c1_3) := cz_ BK479 3; have hfz21_0 := fz_ BK479 0; have hfz21_1 := fz_ BK479 1; have hfz21_2 := fz_ BK479 2; have hfz21_3 := fz_ BK479 3; have hcz22_0 : w19.cell? ⟨gb480, 0, none⟩ = some (.int .i64 a2_0) := cz_ BK480 0; have hcz22_1 : w19.cell? ⟨gb480, 1, none⟩ = some (.int .i64 a2_1) := cz_ BK480 1; have hcz22_2 : w19.cell? ⟨gb480, 2, none⟩ = some (.int .i64 a2_2) := cz_ BK480 2; have hfz22_0 := fz_ BK480 0; have hfz22_1 := fz_ BK480 1; have hfz22_2 := fz_ BK480 2) | ((with_reducible refine gate_callee (f := 29) rfl ?_); refine ge_ 14 Try.func29 #[.int .i64 a0, .agg #[.int .i64 a1_0, .int .i64 a1_1, .int .i64 a1_2, .slice A1_3 l1_3.length c1_3], .agg #[.int .i64 a2_0, .int .i64 a2_1, .int .i64 a2_2]] ?_; (with_reducible refine (impl_measureCode.calls k a0 a1_0 a1_1 a1_2 _ _ l1_3 a2_0 a2_1 a2_2 t481 _ ?side1 ?side2 A4.out).mono ?_); (case side1 => repeat (first | exact (Kd.C_below HR1_3.out HB.out) | (with_reducible refine Kd.C_alloc ?_ _) | (with_reducible refine Kd.C_drewN ?_ _) | (with_reducible refine Kd.C_drew ?_))); (case side2 => exact HC1_3.out); rintro e w23 ⟨rfl, hb⟩; refine ⟨_, rfl, ?_⟩; replace BK479 := bb_ BK479 hb; replace BK480 := bb_ BK480 hb; replace HB := bt_ HB hb; (try clear hb); (try clear hb2); (try clear hk); (try clear hi); have hcz24_0 : w23.cell? ⟨gb479, 0, none⟩ = some (.int .i64 a1_0) := cz_ BK479 0; have hcz24_1 : w23.cell? ⟨gb479, 1, none⟩ = some (.int .i64 a1_1) := cz_ BK479 1; have hcz24_2 : w23.cell? ⟨gb479, 2, none⟩ = some (.int .i64 a1_2) := cz_ BK479 2; have hcz24_3 : w23.cell? ⟨gb479, 3, none⟩ = some (.slice A1_3 l1_3.length c1_3) := cz_ BK479 3; have hfz24_0 := fz_ BK479 0; have hfz24_1 := fz_ BK479 1; have hfz24_2 := fz_ BK479 2; have hfz24_3 := fz_ BK479 3; have hcz25_0 : w23.cell? ⟨gb480, 0, none⟩ = some (.int .i64 a2_0) := cz_ BK480 0; have hcz25_1 : w23.cell? ⟨gb480, 1, none⟩ = some (.int .i64 a2_1) := cz_ BK480 1; have hcz25_2 : w23.cell? ⟨gb480, 2, none⟩ = some (.int .i64 a2_2) := cz_ BK480 2; have hfz25_0 := fz_ BK480 0; have hfz25_1 := fz_ BK480 1; have hfz25_2 := fz_ BK480 2) | ((with_reducible refine gate_callee (f := 30) rfl ?_); refine ge_ 21 Try.func30 #[.int .i64 a0, .agg #[.int .i64 a1_0, .int .i64 a1_1, .int .i64 a1_2, .slice A1_3 l1_3.length c1_3], .agg #[.int .i64 a2_0, .int .i64 a2_1, .int .i64 a2_2]] ?_; (with_reducible refine (impl_inPiece.calls k a0 a1_0 a1_1 a1_2 _ _ l1_3 a2_0 a2_1 a2_2 false _ ?side1 ?side2 A6.out).mono ?_); (case side1 => repeat (first | exact (Kd.C_below HR1_3.out HB.out) | (with_reducible refine Kd.C_alloc ?_ _) | (with_reducible refine Kd.C_drewN ?_ _) | (with_reducible refine Kd.C_drew ?_))); (case side2 => exact HC1_3.out); rintro e w26 ⟨rfl, hb⟩; refine ⟨_, rfl, ?_⟩; replace BK479 := bb_ BK479 hb; replace BK480 := bb_ BK480 hb; replace HB := bt_ HB hb; (try clear hb); (try clear hb2); (try clear hk); (try clear hi); have hcz27_0 : w26.cell? ⟨gb479, 0, none⟩ = some (.int .i64 a1_0) := cz_ BK479 0; have hcz27_1 : w26.cell? ⟨gb479, 1, none⟩ = some (.int .i64 a1_1) := cz_ BK479 1; have hcz27_2 : w26.cell? ⟨gb479, 2, none⟩ = some (.int .i64 a1_2) := cz_ BK479 2; have hcz27_3 : w26.cell? ⟨gb479, 3, none⟩ = some (.slice A1_3 l1_3.length c1_3) := cz_ BK479 3; have hfz27_0 := fz_ BK479 0; have hfz27_1 := fz_ BK479 1; have hfz27_2 := fz_ BK479 2; have hfz27_3 := fz_ BK479 3; have hcz28_0 : w26.cell? ⟨gb480, 0, none⟩ = some (.int .i64 a2_0) := cz_ BK480 0; have hcz28_1 : w26.cell? ⟨gb480, 1, none⟩ = some (.int .i64 a2_1) := cz_ BK480 1; have hcz28_2 : w26.cell? ⟨gb480, 2, none⟩ = some (.int .i64 a2_2) := cz_ BK480 2; have hfz28_0 := fz_ BK480 0; have hfz28_1 := fz_ BK480 1; have hfz28_2 := fz_ BK480 2) | ((with_reducible refine gate_callee (f := 31) rfl ?_); refine ge_ 26 Try.func31 #[.int .i64 a0, .agg #[.int .i64 a1_0, .int .i64 a1_1, .int .i64 a1_2, .slice A1_3 l1_3.length c1_3], .agg #[.int .i64 a2_0, .int .i64 a2_1, .int .i64 a2_2]] ?_; (with_reducible refine (impl_total.calls k a0 a1_0 a1_1 a1_2 _ _ l1_3 a2_0 a2_1 a2_2 t483 t484 _ ?side1 ?side2 A17.out).mono ?_); (case side1 => repeat (first | exact (Kd.C_below HR1_3.out HB.out) | (with_reducible refine Kd.C_alloc ?_ _) | (with_reducible refine Kd.C_drewN ?_ _) | (with_reducible refine Kd.C_drew ?_))); (case side2 => exact HC1_3.out); rintro e w29 ⟨rfl, hb⟩; refine ⟨_, rfl, ?_⟩; replace BK479 := bb_ BK479 hb; replace BK480 := bb_ BK480 hb; replace HB := bt_ HB hb; (try clear hb); (try clear hb2); (try clear hk); (try clear hi)))
   go_ret2
   exact ⟨by first | rfl | (simp [errW_none, errW_some] <;> rfl) | (simp [*, errW_none, errW_some] <;> rfl), by repeat (first | (with_reducible first | exact HB.out | apply below_alloc | apply pw_below_drewN | apply below_drew1 | refine below_set ?_ GE479.out | refine below_set ?_ GE480.out) | exact HB.out)⟩
 ·rw [if_neg c5] at H
  have c5b0 : (t481 == 0) = false := beq_eq_false_iff_ne.mpr c5
  have c5b1 : (t481 != 0) = true := bne_iff_ne.mpr c5
  simp only [Option.some.injEq, Prod.mk.injEq] at H
  obtain ⟨rfl, rfl⟩ := H
  go_enter Try.func11, Try.ntmps11
  go_wp2_with (first | ((with_reducible refine gate_dst (N := 4) rfl ?_); refine bx_ 4 #[.int .i64 a1_0, .int .i64 a1_1, .int .i64 a1_2, .slice A1_3 l1_3.length c1_3] 33 ?_; intro gb479 hg w30 hbox hb; have BK479 := Aside0.mk (hbox); have GW479 := bs_ HB hg; have GE479 := bs_ HB hg; replace HB := bt_ HB hb; clear hb hbox hg) | ((with_reducible refine gate_dst (N := 5) rfl ?_); refine bx_ 5 #[.int .i64 a2_0, .int .i64 a2_1, .int .i64 a2_2] 30 ?_; intro gb480 hg w31 hbox hb; have BK480 := Aside0.mk (hbox); have GW480 := bs_ HB hg; have GE480 := bs_ HB hg; have NB479_480 := bm_ BK479 hg; have NB480_479 := bn_ BK479 hg; replace BK479 := bb_ BK479 hb; replace HB := bt_ HB hb; clear hb hbox hg; have hnb32 := NB479_480.out; have hnc32 := NB480_479.out; have hcz33_0 : w31.cell? ⟨gb479, 0, none⟩ = some (.int .i64 a1_0) := cz_ BK479 0; have hcz33_1 : w31.cell? ⟨gb479, 1, none⟩ = some (.int .i64 a1_1) := cz_ BK479 1; have hcz33_2 : w31.cell? ⟨gb479, 2, none⟩ = some (.int .i64 a1_2) := cz_ BK479 2; have hcz33_3 : w31.cell? ⟨gb479, 3, none⟩ = some (.slice A1_3 l1_3.length c1_3) := cz_ BK479 3; have hfz33_0 := fz_ BK479 0; have hfz33_1 := fz_ BK479 1; have hfz33_2 := fz_ BK479 2; have hfz33_3 := fz_ BK479 3; have hcz34_0 : w31.cell? ⟨gb480, 0, none⟩ = some (.int .i64 a2_0) := cz_ BK480 0; have hcz34_1 : w31.cell? ⟨gb480, 1, none⟩ = some (.int .i64 a2_1) := cz_ BK480 1; have hcz34_2 : w31.cell? ⟨gb480, 2, none⟩ = some (.int .i64 a2_2) := cz_ BK480 2; have hfz34_0 := fz_ BK480 0; have hfz34_1 := fz_ BK480 1; have hfz34_2 := fz_ BK480 2) | ((with_reducible refine gate_callee (f := 29) rfl ?_); refine ge_ 14 Try.func29 #[.int .i64 a0, .agg #[.int .i64 a1_0, .int .i64 a1_1, .int .i64 a1_2, .slice A1_3 l1_3.length c1_3], .agg #[.int .i64 a2_0, .int .i64 a2_1, .int .i64 a2_2]] ?_; (with_reducible refine (impl_measureCode.calls k a0 a1_0 a1_1 a1_2 _ _ l1_3 a2_0 a2_1 a2_2 t481 _ ?side1 ?side2 A4.out).mono ?_); (case side1 => repeat (first | exact (Kd.C_below HR1_3.out HB.out) | (with_reducible refine Kd.C_alloc ?_ _) | (with_reducible refine Kd.C_drewN ?_ _) | (with_reducible refine Kd.C_drew ?_))); (case side2 => exact HC1_3.out); rintro e w35 ⟨rfl, hb⟩; refine ⟨_, rfl, ?_⟩; replace BK479 := bb_ BK479 hb; replace BK480 := bb_ BK480 hb; replace HB := bt_ HB hb; (try clear hb); (try clear hb2); (try clear hk); (try clear hi)))
  go_ret2
  exact ⟨by first | rfl | (simp [errW_none, errW_some] <;> rfl) | (simp [*, errW_none, errW_some] <;> rfl), by repeat (first | (with_reducible first | exact HB.out | apply below_alloc | apply pw_below_drewN | apply below_drew1 | refine below_set ?_ GE479.out | refine below_set ?_ GE480.out) | exact HB.out)⟩
end Go.Proofs.Ytoiailmmgfokjaa.QC
