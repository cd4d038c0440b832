-- Written by a program of this session out of Lean's own print of the loaded program; Lean checks it.
import Derived.Test.YtoiailmmgfokjaaQCx6
import Derived.Test.YtoiailmmgfokjaaQCx33
import Derived.Test.YtoiailmmgfokjaaQCx37
namespace Go.Proofs.Ytoiailmmgfokjaa.QC
open Go.RowKit Go.Proofs.YtoiailmmgfokjaaW.PrintWords Go.Proofs.YtoiailmmgfokjaaW.PrintLast Go.Proofs.YtoiailmmgfokjaaW.PrintMore
attribute [local go_sem] isSome_setCell max2_int min2_int max_two min_two max_three min_three max_four min_four   -- for this text's walks alone
set_option linter.unusedVariables false
set_option linter.unusedSimpArgs false

/-! ### impl_IsMeasure: function 36 -/
mutual
def impl_IsMeasure.j0 : Nat → Bool → Int → Int → Int → List (S63) → Option (Bool)
 | 0, _, _, _, _, _ => none
 | k + 1, x20, x313000, x313001, x313002, x313003 => if x20 = true then (some false) else (impl_IsMeasure.l0 k x313003 (x313003.length : Int) 0)
def impl_IsMeasure.l0 : Nat → List (S63) → Int → Int → Option (Bool)
 | 0, _, _, _ => none
 | k + 1, x22, x23, x24 => if x24 < x23 then (if 0 ≤ x24 then (if x24 < (x22.length : Int) then ((impl_isWeight.f k (([(rd_T63 x22 x24).f1] : List Int))).bind fun t320 => (if t320 = true then (impl_IsMeasure.l0 k x22 x23 (wrap64 (x24 + 1))) else (some false))) else (none)) else (none)) else (some true)
end
def impl_IsMeasure.f (k : Nat) (a0 : Int) (a1_0 : Int) (a1_1 : Int) (a1_2 : Int) (l1_3 : List (S63)) : Option (Bool) := (impl_IsBall.f k a0 a1_0 a1_1 a1_2).bind fun t313 => (if t313 = true then ((impl_isPartition.f k a0 a1_0 a1_1 a1_2 l1_3).bind fun t314 => (impl_IsMeasure.j0 k (!t314) a1_0 a1_1 a1_2 l1_3)) else (impl_IsMeasure.j0 k true a1_0 a1_1 a1_2 l1_3))
set_option maxHeartbeats 8000000 in
set_option maxRecDepth 100000 in
theorem impl_IsMeasure.calls (k : Nat) (a0 : Int) (a1_0 : Int) (a1_1 : Int) (a1_2 : Int) (A1_3 : Option Addr) (c1_3 : Nat) (l1_3 : List (S63)) (r : Bool) (w : World) (hr1_3 : Kd.C k63 w A1_3 l1_3.length l1_3) (hc1_3 : l1_3.length ≤ c1_3) (h : impl_IsMeasure.f k a0 a1_0 a1_1 a1_2 l1_3 = some r) :
  Calls Try.prog 36 #[.int .i64 a0, .agg #[.int .i64 a1_0, .int .i64 a1_1, .int .i64 a1_2, .slice A1_3 l1_3.length c1_3]] w fun e w' => e = .returned (.bool r) ∧ Below w.heap.size w w' := by
 have hu33 := Try.underlying33
 have hu30 := Try.underlying30
 have hu63 := Try.underlying63
 have HR1_3 := Aside0.mk hr1_3
 have HC1_3 := Aside0.mk hc1_3
 clear hr1_3 hc1_3
 have HB := Aside0.mk (Below.refl w.heap.size w)
 have H : ((impl_IsBall.f k a0 a1_0 a1_1 a1_2).bind fun t313 => (if t313 = true then ((impl_isPartition.f k a0 a1_0 a1_1 a1_2 l1_3).bind fun t314 => (impl_IsMeasure.j0 k (!t314) a1_0 a1_1 a1_2 l1_3)) else (impl_IsMeasure.j0 k true a1_0 a1_1 a1_2 l1_3))) = some r := h
 clear h
 have HC3 := Aside0.mk H
 clear H
 go_enter Try.func36, Try.ntmps36
 go_upto_region 1 with (first | ((with_reducible refine gate_dst (N := 3) rfl ?_); refine bx_ 3 #[.int .i64 a1_0, .int .i64 a1_1, .int .i64 a1_2, .slice A1_3 l1_3.length c1_3] 33 ?_; intro gb312 hg w4 hbox hb; have BK312 := Aside0.mk (hbox); have GW312 := bs_ HB hg; have GE312 := bs_ HB hg; replace HB := bt_ HB hb; clear hb hbox hg))
 (try simp only [Act.put, lstS, lstZ, lstC])
 go_cut [20] (fun v20 wc => ∃ (kq : Nat) (x20_2 : Bool), v20 = .bool x20_2 ∧ Aside0 (impl_IsMeasure.j0 kq x20_2 a1_0 a1_1 a1_2 l1_3 = some r) ∧ Aside0 (kq ≤ k) ∧ Aside0 (wc.heap[gb312]? = some (.cells #[.int .i64 a1_0, .int .i64 a1_1, .int .i64 a1_2, (.slice A1_3 l1_3.length c1_3)] 33 (0, 0))) ∧ Aside0 (Below w.heap.size w wc))
 case first =>
  have H := HC3.out
  clear HC3
  replace H := Option.bind_eq_some_iff.mp H
  obtain ⟨t313, A50, H⟩ := H
  have A5 := Aside0.mk A50
  clear A50
  by_cases c6 : t313 = true
  ·subst c6
   have H1 : ((impl_isPartition.f k a0 a1_0 a1_1 a1_2 l1_3).bind fun t314 => (impl_IsMeasure.j0 k (!t314) a1_0 a1_1 a1_2 l1_3)) = some r := by rw [if_pos rfl] at H; exact H
   clear H
   have H := H1
   clear H1
   replace H := Option.bind_eq_some_iff.mp H
   obtain ⟨t314, A70, H⟩ := H
   have A7 := Aside0.mk A70
   clear A70
   have H' := Aside0.mk H
   clear H
   have hcz8_0 : w4.cell? ⟨gb312, 0, none⟩ = some (.int .i64 a1_0) := cz_ BK312 0
   have hcz8_1 : w4.cell? ⟨gb312, 1, none⟩ = some (.int .i64 a1_1) := cz_ BK312 1
   have hcz8_2 : w4.cell? ⟨gb312, 2, none⟩ = some (.int .i64 a1_2) := cz_ BK312 2
   have hcz8_3 : w4.cell? ⟨gb312, 3, none⟩ = some (.slice A1_3 l1_3.length c1_3) := cz_ BK312 3
   have hfz8_0 := fz_ BK312 0
   have hfz8_1 := fz_ BK312 1
   have hfz8_2 := fz_ BK312 2
   have hfz8_3 := fz_ BK312 3
   go_wp2_with (first | ((with_reducible refine gate_callee (f := 56) rfl ?_); refine ge_ 10 Try.func56 #[.int .i64 a0, .agg #[.int .i64 a1_0, .int .i64 a1_1, .int .i64 a1_2]] ?_; (with_reducible refine (impl_IsBall.calls k a0 a1_0 a1_1 a1_2 true _ A5.out).mono ?_); rintro e w9 ⟨rfl, hb⟩; refine ⟨_, rfl, ?_⟩; replace BK312 := bb_ BK312 hb; replace HB := bt_ HB hb; (try clear hb); (try clear hb2); (try clear hk); (try clear hi); have hcz10_0 : w9.cell? ⟨gb312, 0, none⟩ = some (.int .i64 a1_0) := cz_ BK312 0; have hcz10_1 : w9.cell? ⟨gb312, 1, none⟩ = some (.int .i64 a1_1) := cz_ BK312 1; have hcz10_2 : w9.cell? ⟨gb312, 2, none⟩ = some (.int .i64 a1_2) := cz_ BK312 2; have hcz10_3 : w9.cell? ⟨gb312, 3, none⟩ = some (.slice A1_3 l1_3.length c1_3) := cz_ BK312 3; have hfz10_0 := fz_ BK312 0; have hfz10_1 := fz_ BK312 1; have hfz10_2 := fz_ BK312 2; have hfz10_3 := fz_ BK312 3) | (go_at_call 66; (with_reducible refine (impl_isPartition.calls k a0 a1_0 a1_1 a1_2 _ _ l1_3 t314 _ ?side1 ?side2 A7.out).mono ?_); (case side1 => repeat (first | exact (Kd.C_below HR1_3.out HB.out) | (with_reducible refine Kd.C_alloc ?_ _) | (with_reducible refine Kd.C_drewN ?_ _) | (with_reducible refine Kd.C_drew ?_))); (case side2 => exact HC1_3.out); rintro e w11 ⟨rfl, hb⟩; replace BK312 := bb_ BK312 hb; replace HB := bt_ HB hb; (try clear hb); (try clear hb2); (try clear hk); (try clear hi)))
   go_meet
   case rel => exact ⟨_, (!t314), (by first | rfl | (simp; done) | (simp [*]; done) | (simp [wrap64]; done)), H', ⟨by first | omega | exact Nat.le_refl _⟩, bl_ BK312, bw_ HB⟩
  ·replace c6 := Bool.eq_false_iff.mpr c6
   subst c6
   have H1 : (impl_IsMeasure.j0 k true a1_0 a1_1 a1_2 l1_3) = some r := by rw [if_neg (show ¬ (false = true) by decide)] at H; exact H
   clear H
   have H := H1
   clear H1
   have H' := Aside0.mk H
   clear H
   have hcz12_0 : w4.cell? ⟨gb312, 0, none⟩ = some (.int .i64 a1_0) := cz_ BK312 0
   have hcz12_1 : w4.cell? ⟨gb312, 1, none⟩ = some (.int .i64 a1_1) := cz_ BK312 1
   have hcz12_2 : w4.cell? ⟨gb312, 2, none⟩ = some (.int .i64 a1_2) := cz_ BK312 2
   have hcz12_3 : w4.cell? ⟨gb312, 3, none⟩ = some (.slice A1_3 l1_3.length c1_3) := cz_ BK312 3
   have hfz12_0 := fz_ BK312 0
   have hfz12_1 := fz_ BK312 1
   have hfz12_2 := fz_ BK312 2
   have hfz12_3 := fz_ BK312 3
   go_wp2_with (first | ((with_reducible refine gate_callee (f := 56) rfl ?_); refine ge_ 10 Try.func56 #[.int .i64 a0, .agg #[.int .i64 a1_0, .int .i64 a1_1, .int .i64 a1_2]] ?_; (with_reducible refine (impl_IsBall.calls k a0 a1_0 a1_1 a1_2 false _ A5.out).mono ?_); rintro e w13 ⟨rfl, hb⟩; refine ⟨_, rfl, ?_⟩; replace BK312 := bb_ BK312 hb; replace HB := bt_ HB hb; (try clear hb); (try clear hb2); (try clear hk); (try clear hi)))
   go_meet
   case rel => exact ⟨_, (true), (by first | rfl | (simp; done) | (simp [*]; done) | (simp [wrap64]; done)), H', ⟨by first | omega | exact Nat.le_refl _⟩, bl_ BK312, bw_ HB⟩
 case rest =>
  clear HC3
  try clear c1
  try clear p2
  try clear c3
  try clear c5
  try clear c6
  try clear hcz10_0
  try clear hcz10_1
  try clear hcz10_2
  try clear hcz10_3
  try clear hcz12_0
  try clear hcz12_1
  try clear hcz12_2
  try clear hcz12_3
  try clear hcz8_0
  try clear hcz8_1
  try clear hcz8_2
  try clear hcz8_3
  try clear hfz10_0
  try clear hfz10_1
  try clear hfz10_2
  try clear hfz10_3
  try clear hfz12_0
  try clear hfz12_1
  try clear hfz12_2
  try clear hfz12_3
  try clear hfz8_0
  try clear hfz8_1
  try clear hfz8_2
  try clear hfz8_3
  obtain ⟨kq, x20_2, rfl, HA, HJ2, BK312, HB⟩ := hcut
  cases kq with
  | zero => exact absurd HA.out (by simp [impl_IsMeasure.j0])
  | succ kj2 =>
   have H := HA.out
   clear HA
   simp only [impl_IsMeasure.j0] at H
   by_cases c14 : x20_2 = true
   ·subst c14
    have H1 : (some false) = some r := by rw [if_pos rfl] at H; exact H
    clear H
    have H := H1
    clear H1
    obtain rfl := Option.some.inj H
    go_wp2
    go_ret
    exact ⟨by first | rfl | (simp [errW_none, errW_some] <;> rfl) | (simp [*, errW_none, errW_some] <;> rfl), by repeat (first | (with_reducible first | exact HB.out | apply below_alloc | apply pw_below_drewN | apply below_drew1 | refine below_set ?_ GE312.out) | exact HB.out)⟩
   ·replace c14 := Bool.eq_false_iff.mpr c14
    subst c14
    have H1 : (impl_IsMeasure.l0 kj2 l1_3 (l1_3.length : Int) 0) = some r := by rw [if_neg (show ¬ (false = true) by decide)] at H; exact H
    clear H
    have H := H1
    clear H1
    have H' := Aside0.mk H
    clear H
    have hcz15_0 : wc.cell? ⟨gb312, 0, none⟩ = some (.int .i64 a1_0) := cz_ BK312 0
    have hcz15_1 : wc.cell? ⟨gb312, 1, none⟩ = some (.int .i64 a1_1) := cz_ BK312 1
    have hcz15_2 : wc.cell? ⟨gb312, 2, none⟩ = some (.int .i64 a1_2) := cz_ BK312 2
    have hcz15_3 : wc.cell? ⟨gb312, 3, none⟩ = some (.slice A1_3 l1_3.length c1_3) := cz_ BK312 3
    have hfz15_0 := fz_ BK312 0
    have hfz15_1 := fz_ BK312 1
    have hfz15_2 := fz_ BK312 2
    have hfz15_3 := fz_ BK312 3
    go_wp2
    go_loopg [24] kj2 (fun kq v24 w' => ∃ (x24_2 : Int), v24 = .int .i64 x24_2 ∧ Aside0 (impl_IsMeasure.l0 kq l1_3 (l1_3.length : Int) x24_2 = some r) ∧ Aside0 (kq ≤ kj2) ∧ Aside0 (w'.heap[gb312]? = some (.cells #[.int .i64 a1_0, .int .i64 a1_1, .int .i64 a1_2, (.slice A1_3 l1_3.length c1_3)] 33 (0, 0))) ∧ Aside0 (Below w.heap.size w w'))
    case atStart => exact ⟨(0), (by first | rfl | (simp; done) | (simp [*]; done) | (simp [wrap64]; done)), H', ⟨Nat.le_refl _⟩, bl_ BK312, bw_ HB⟩
    case round =>
     clear H'
     try clear c1
     try clear p2
     try clear c3
     try clear c5
     try clear c6
     try clear c14
     try clear hcz10_0
     try clear hcz10_1
     try clear hcz10_2
     try clear hcz10_3
     try clear hcz12_0
     try clear hcz12_1
     try clear hcz12_2
     try clear hcz12_3
     try clear hcz15_0
     try clear hcz15_1
     try clear hcz15_2
     try clear hcz15_3
     try clear hcz8_0
     try clear hcz8_1
     try clear hcz8_2
     try clear hcz8_3
     try clear hfz10_0
     try clear hfz10_1
     try clear hfz10_2
     try clear hfz10_3
     try clear hfz12_0
     try clear hfz12_1
     try clear hfz12_2
     try clear hfz12_3
     try clear hfz15_0
     try clear hfz15_1
     try clear hfz15_2
     try clear hfz15_3
     try clear hfz8_0
     try clear hfz8_1
     try clear hfz8_2
     try clear hfz8_3
     try clear p2
     obtain ⟨x24_2, rfl, HA, HK2, BK312, HB⟩ := hrel
     cases gk with
     | zero => exact absurd HA.out (by simp [impl_IsMeasure.l0])
     | succ k2 =>
      have H := HA.out
      clear HA
      simp only [impl_IsMeasure.l0] at H
      by_cases c16 : x24_2 < (l1_3.length : Int)
      ·rw [if_pos c16] at H
       have c16b0 : decide (x24_2 < (l1_3.length : Int)) = true := decide_eq_true c16
       clear c16
       by_cases c17 : 0 ≤ x24_2
       ·rw [if_pos c17] at H
        have c17b0 : decide (0 ≤ x24_2) = true := decide_eq_true c17
        clear c17
        by_cases c18 : x24_2 < (l1_3.length : Int)
        ·rw [if_pos c18] at H
         have c18b0 : decide (x24_2 < (l1_3.length : Int)) = true := decide_eq_true c18
         clear c18
         obtain ⟨y317, hy317⟩ : ∃ y_ : List Int, y_ = (([(rd_T63 l1_3 x24_2).f1] : List Int)) := ⟨_, rfl⟩
         replace H : ((impl_isWeight.f k2 y317).bind fun t320 => (if t320 = true then (impl_IsMeasure.l0 k2 l1_3 (l1_3.length : Int) (wrap64 (x24_2 + 1))) else (some false))) = some r := by first | (rw [hy317]; with_reducible exact H) | (have H2_ := (Option.bind_some _ _).symm.trans H; rw [hy317]; with_reducible exact H2_) | (have H2_ := (Option.bind_some _ _).symm.trans H; with_reducible exact H2_) | with_reducible exact H | (rw [hy317]; exact H) | exact H
         have Ny317 := Aside0.mk hy317
         clear hy317
         replace H := Option.bind_eq_some_iff.mp H
         obtain ⟨t320, A190, H⟩ := H
         have A19 := Aside0.mk A190
         clear A190
         by_cases c20 : t320 = true
         ·subst c20
          have H1 : (impl_IsMeasure.l0 k2 l1_3 (l1_3.length : Int) (wrap64 (x24_2 + 1))) = some r := by rw [if_pos rfl] at H; exact H
          clear H
          have H := H1
          clear H1
          have H' := Aside0.mk H
          clear H
          have p315 : 0 ≤ (x24_2 : Int) := of_decide_eq_true (by first | (with_reducible assumption) | assumption)
          have q315 : x24_2 < (l1_3.length : Int) := of_decide_eq_true (by first | (with_reducible assumption) | assumption)
          obtain ⟨ad315, e315, hx315_0, hx315_1, hx315_2, hx315_3⟩ := at_T63 HR1_3.out x24_2 p315 q315
          cases e315
          replace hx315_0 := clTr HB.out hx315_0
          replace hx315_1 := clTr HB.out hx315_1
          replace hx315_2 := clTr HB.out hx315_2
          replace hx315_3 := clTr HB.out hx315_3
          replace p315 := eq_true p315
          replace q315 := eq_true q315
          go_wp2_with (first | ((with_reducible refine gate_dst (N := 6) rfl ?_); refine bx_ 6 #[.int .i64 0, .int .i64 0, .int .i64 0, .int .i64 0] 63 ?_; intro gb316 hg w21 hbox hb; have BK316 := Aside0.mk (hbox); have GW316 := bs_ HB hg; have GE316 := bs_ HB hg; have NB312_316 := bm_ BK312 hg; have NB316_312 := bn_ BK312 hg; replace BK312 := bb_ BK312 hb; replace HB := bt_ HB hb; clear hb hbox hg; have hnb22 := NB316_312.out; have hnc22 := NB312_316.out; have hcz23_0 : w21.cell? ⟨gb316, 0, none⟩ = some (.int .i64 0) := cz_ BK316 0; have hcz23_1 : w21.cell? ⟨gb316, 1, none⟩ = some (.int .i64 0) := cz_ BK316 1; have hcz23_2 : w21.cell? ⟨gb316, 2, none⟩ = some (.int .i64 0) := cz_ BK316 2; have hcz23_3 : w21.cell? ⟨gb316, 3, none⟩ = some (.int .i64 0) := cz_ BK316 3; have hfz23_0 := fz_ BK316 0; have hfz23_1 := fz_ BK316 1; have hfz23_2 := fz_ BK316 2; have hfz23_3 := fz_ BK316 3) | ((with_reducible refine gate_dst (N := 30) rfl ?_); refine Kd.R_lit (Kd.int .i64) _ 2 ?hg (N := 30) ?hd (xs := ([(rd_T63 l1_3 x24_2).f1] : List Int)) (inner := [.int .i64 ((rd_T63 l1_3 x24_2).f1)]) (ok := fun _ => True) (okp := fun _ => True) ?hr ?hp (fun _ hk => hk) trivial (Below.refl _ _) (Nat.le_refl _) (by simp) ?_; (case hd => rfl); (case hg => rfl); (case hr => first | (go_simp; done) | (go_simp; rfl)); (case hp => exact (Reps.one (show Kd.M (Kd.int .i64) _ _ _ ((rd_T63 l1_3 x24_2).f1) [.int .i64 ((rd_T63 l1_3 x24_2).f1)] from rfl) (Reps.none _ _))); intro v318 w24 ho25 hb hg_ hnew_; clear hg_ hnew_; (first | rw [← Ny317.out] at ho25 | (simp only [Int.reduceToNat] at ho25; rw [← Ny317.out] at ho25)); have HO319 := Aside0.mk (Kd.R_lower ho25 (below_size (bw_ HB).out)); replace BK312 := fb_ BK312 NB312_316 hb; replace BK316 := Aside0.mk (blk_below (g := gb316) (o := .cells #[.int .i64 ((rd_T63 l1_3 x24_2).f0.f0), .int .i64 ((rd_T63 l1_3 x24_2).f0.f1), .int .i64 ((rd_T63 l1_3 x24_2).f0.f2), .int .i64 ((rd_T63 l1_3 x24_2).f1)] 63 (0, 0)) (by (with_reducible repeat first | apply blk_drewN | apply blk_drew | apply blk_alloc); refine blk_put (cs := #[.int .i64 ((rd_T63 l1_3 x24_2).f0.f0), .int .i64 ((rd_T63 l1_3 x24_2).f0.f1), .int .i64 ((rd_T63 l1_3 x24_2).f0.f2), .int .i64 0]) ?_ 3 _ rfl; (with_reducible repeat first | apply blk_drewN | apply blk_drew | apply blk_alloc); refine blk_put (cs := #[.int .i64 ((rd_T63 l1_3 x24_2).f0.f0), .int .i64 ((rd_T63 l1_3 x24_2).f0.f1), .int .i64 0, .int .i64 0]) ?_ 2 _ rfl; (with_reducible repeat first | apply blk_drewN | apply blk_drew | apply blk_alloc); refine blk_put (cs := #[.int .i64 ((rd_T63 l1_3 x24_2).f0.f0), .int .i64 0, .int .i64 0, .int .i64 0]) ?_ 1 _ rfl; (with_reducible repeat first | apply blk_drewN | apply blk_drew | apply blk_alloc); refine blk_put (cs := #[.int .i64 0, .int .i64 0, .int .i64 0, .int .i64 0]) ?_ 0 _ rfl; (with_reducible repeat first | apply blk_drewN | apply blk_drew | apply blk_alloc); exact BK316.out) hb); replace HB := bt_ HB hb; clear hb ho25; obtain ⟨Ao26, co26, eo26⟩ := Kd.R_slice HO319.out; subst eo26) | ((with_reducible refine gate_callee (f := 38) rfl ?_); refine ge_ 31 Try.func38 #[.slice Ao26 y317.length co26] ?_; (with_reducible refine (impl_isWeight.calls k2 _ _ y317 true _ ?side1 ?side2 A19.out).mono ?_); (case side1 => repeat (first | exact (Kd.R_reads' HO319.out).2.2 | (with_reducible refine Kd.C_alloc ?_ _) | (with_reducible refine Kd.C_drewN ?_ _) | (with_reducible refine Kd.C_drew ?_))); (case side2 => exact (Kd.R_reads' HO319.out).2.1); rintro e w' ⟨rfl, ⟨nd, rfl⟩⟩; refine ⟨_, rfl, ?_⟩))
          go_roundg k2
          case measure => have := HJ2.out; have := HK2.out; omega
          case rel => exact ⟨(wrap64 (x24_2 + 1)), (by first | rfl | (simp; done) | (simp [*]; done) | (simp [wrap64]; done)), H', ⟨by have := HJ2.out; have := HK2.out; omega⟩, bl_ BK312, bw_ HB⟩
         ·replace c20 := Bool.eq_false_iff.mpr c20
          subst c20
          have H1 : (some false) = some r := by rw [if_neg (show ¬ (false = true) by decide)] at H; exact H
          clear H
          have H := H1
          clear H1
          obtain rfl := Option.some.inj H
          have p315 : 0 ≤ (x24_2 : Int) := of_decide_eq_true (by first | (with_reducible assumption) | assumption)
          have q315 : x24_2 < (l1_3.length : Int) := of_decide_eq_true (by first | (with_reducible assumption) | assumption)
          obtain ⟨ad315, e315, hx315_0, hx315_1, hx315_2, hx315_3⟩ := at_T63 HR1_3.out x24_2 p315 q315
          cases e315
          replace hx315_0 := clTr HB.out hx315_0
          replace hx315_1 := clTr HB.out hx315_1
          replace hx315_2 := clTr HB.out hx315_2
          replace hx315_3 := clTr HB.out hx315_3
          replace p315 := eq_true p315
          replace q315 := eq_true q315
          go_wp2_with (first | ((with_reducible refine gate_dst (N := 6) rfl ?_); refine bx_ 6 #[.int .i64 0, .int .i64 0, .int .i64 0, .int .i64 0] 63 ?_; intro gb316 hg w27 hbox hb; have BK316 := Aside0.mk (hbox); have GW316 := bs_ HB hg; have GE316 := bs_ HB hg; have NB312_316 := bm_ BK312 hg; have NB316_312 := bn_ BK312 hg; replace BK312 := bb_ BK312 hb; replace HB := bt_ HB hb; clear hb hbox hg; have hnb28 := NB316_312.out; have hnc28 := NB312_316.out; have hcz29_0 : w27.cell? ⟨gb316, 0, none⟩ = some (.int .i64 0) := cz_ BK316 0; have hcz29_1 : w27.cell? ⟨gb316, 1, none⟩ = some (.int .i64 0) := cz_ BK316 1; have hcz29_2 : w27.cell? ⟨gb316, 2, none⟩ = some (.int .i64 0) := cz_ BK316 2; have hcz29_3 : w27.cell? ⟨gb316, 3, none⟩ = some (.int .i64 0) := cz_ BK316 3; have hfz29_0 := fz_ BK316 0; have hfz29_1 := fz_ BK316 1; have hfz29_2 := fz_ BK316 2; have hfz29_3 := fz_ BK316 3) | ((with_reducible refine gate_dst (N := 30) rfl ?_); refine Kd.R_lit (Kd.int .i64) _ 2 ?hg (N := 30) ?hd (xs := ([(rd_T63 l1_3 x24_2).f1] : List Int)) (inner := [.int .i64 ((rd_T63 l1_3 x24_2).f1)]) (ok := fun _ => True) (okp := fun _ => True) ?hr ?hp (fun _ hk => hk) trivial (Below.refl _ _) (Nat.le_refl _) (by simp) ?_; (case hd => rfl); (case hg => rfl); (case hr => first | (go_simp; done) | (go_simp; rfl)); (case hp => exact (Reps.one (show Kd.M (Kd.int .i64) _ _ _ ((rd_T63 l1_3 x24_2).f1) [.int .i64 ((rd_T63 l1_3 x24_2).f1)] from rfl) (Reps.none _ _))); intro v318 w30 ho31 hb hg_ hnew_; clear hg_ hnew_; (first | rw [← Ny317.out] at ho31 | (simp only [Int.reduceToNat] at ho31; rw [← Ny317.out] at ho31)); have HO319 := Aside0.mk (Kd.R_lower ho31 (below_size (bw_ HB).out)); replace BK312 := fb_ BK312 NB312_316 hb; replace BK316 := Aside0.mk (blk_below (g := gb316) (o := .cells #[.int .i64 ((rd_T63 l1_3 x24_2).f0.f0), .int .i64 ((rd_T63 l1_3 x24_2).f0.f1), .int .i64 ((rd_T63 l1_3 x24_2).f0.f2), .int .i64 ((rd_T63 l1_3 x24_2).f1)] 63 (0, 0)) (by (with_reducible repeat first | apply blk_drewN | apply blk_drew | apply blk_alloc); refine blk_put (cs := #[.int .i64 ((rd_T63 l1_3 x24_2).f0.f0), .int .i64 ((rd_T63 l1_3 x24_2).f0.f1), .int .i64 ((rd_T63 l1_3 x24_2).f0.f2), .int .i64 0]) ?_ 3 _ rfl; (with_reducible repeat first | apply blk_drewN | apply blk_drew | apply blk_alloc); refine blk_put (cs := #[.int .i64 ((rd_T63 l1_3 x24_2).f0.f0), .int .i64 ((rd_T63 l1_3 x24_2).f0.f1), .int .i64 0, .int .i64 0]) ?_ 2 _ rfl; (with_reducible repeat first | apply blk_drewN | apply blk_drew | apply blk_alloc); refine blk_put (cs := #[.int .i64 ((rd_T63 l1_3 x24_2).f0.f0), .int .i64 0, .int .i64 0, .int .i64 0]) ?_ 1 _ rfl; (with_reducible repeat first | apply blk_drewN | apply blk_drew | apply blk_alloc); refine blk_put (cs := #[.int .i64 0, .int .i64 0, .int .i64 0, .int .i64 0]) ?_ 0 _ rfl; (with_reducible repeat first | apply blk_drewN | apply blk_drew | apply blk_alloc); exact BK316.out) hb); replace HB := bt_ HB hb; clear hb ho31; obtain ⟨Ao32, co32, eo32⟩ := Kd.R_slice HO319.out; subst eo32) | ((with_reducible refine gate_callee (f := 38) rfl ?_); refine ge_ 31 Try.func38 #[.slice Ao32 y317.length co32] ?_; (with_reducible refine (impl_isWeight.calls k2 _ _ y317 false _ ?side1 ?side2 A19.out).mono ?_); (case side1 => repeat (first | exact (Kd.R_reads' HO319.out).2.2 | (with_reducible refine Kd.C_alloc ?_ _) | (with_reducible refine Kd.C_drewN ?_ _) | (with_reducible refine Kd.C_drew ?_))); (case side2 => exact (Kd.R_reads' HO319.out).2.1); rintro e w' ⟨rfl, ⟨nd, rfl⟩⟩; refine ⟨_, rfl, ?_⟩))
          go_ret
          exact ⟨by first | rfl | (simp [errW_none, errW_some] <;> rfl) | (simp [*, errW_none, errW_some] <;> rfl), by repeat (first | (with_reducible first | exact HB.out | apply below_alloc | apply pw_below_drewN | apply below_drew1 | refine below_set ?_ GE312.out | refine below_set ?_ GE316.out) | exact HB.out)⟩
        ·rw [if_neg c18] at H
         exact absurd H (by simp)
       ·rw [if_neg c17] at H
        exact absurd H (by simp)
      ·rw [if_neg c16] at H
       have c16b0 : decide (x24_2 < (l1_3.length : Int)) = false := decide_eq_false c16
       clear c16
       obtain rfl := Option.some.inj H
       go_wp2
       go_ret
       exact ⟨by first | rfl | (simp [errW_none, errW_some] <;> rfl) | (simp [*, errW_none, errW_some] <;> rfl), by repeat (first | (with_reducible first | exact HB.out | apply below_alloc | apply pw_below_drewN | apply below_drew1 | refine below_set ?_ GE312.out) | exact HB.out)⟩
end Go.Proofs.Ytoiailmmgfokjaa.QC
