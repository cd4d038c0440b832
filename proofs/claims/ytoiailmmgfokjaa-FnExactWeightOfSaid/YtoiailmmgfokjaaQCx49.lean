-- Written by a program of this session out of Lean's own print of the loaded program; Lean checks it.
import Derived.Test.YtoiailmmgfokjaaQCx6
import Derived.Test.YtoiailmmgfokjaaQCx21
import Derived.Test.YtoiailmmgfokjaaQCx47
namespace Go.Proofs.Ytoiailmmgfokjaa.QC
open Go.RowKit Go.Proofs.YtoiailmmgfokjaaW.PrintWords Go.Proofs.YtoiailmmgfokjaaW.PrintLast Go.Proofs.YtoiailmmgfokjaaW.PrintMore
attribute [local go_sem] isSome_setCell max2_int min2_int max_two min_two max_three min_three max_four min_four   -- for this text's walks alone
set_option linter.unusedVariables false
set_option linter.unusedSimpArgs false

/-! ### spec_l08Weight: function 27 -/
def spec_l08Weight.l0 : Nat → Int → Int → Int → Int → Int → Int → List (S63) → Int → Int → Int → Option (Int)
 | 0, _, _, _, _, _, _, _, _, _, _ => none
 | k + 1, x0, x7, x8, x454000, x454001, x454002, x454003, x455000, x455001, x455002 => if x8 < (x454003.length : Int) then (if 0 ≤ x8 then ((spec_l01Holds.f k x0 x455000 x455001 x455002 ((rd_T63 x454003 x8).f0.f0) ((rd_T63 x454003 x8).f0.f1) ((rd_T63 x454003 x8).f0.f2)).bind fun t456 => (if t456 = true then (spec_l08Weight.l0 k x0 (wrap64 (x7 + ((rd_T63 x454003 x8).f1))) (wrap64 (x8 + 1)) x454000 x454001 x454002 x454003 x455000 x455001 x455002) else (spec_l08Weight.l0 k x0 x7 (wrap64 (x8 + 1)) x454000 x454001 x454002 x454003 x455000 x455001 x455002))) else (none)) else (some x7)
def spec_l08Weight.f (k : Nat) (a0 : Int) (a1_0 : Int) (a1_1 : Int) (a1_2 : Int) (l1_3 : List (S63)) (a2_0 : Int) (a2_1 : Int) (a2_2 : Int) : Option (Int) := spec_l08Weight.l0 k a0 0 0 a1_0 a1_1 a1_2 l1_3 a2_0 a2_1 a2_2
def spec_l08Weight.T5 : Bool × List (List Nat × List Nat) := (true, [([], []), ([], []), ([], []), ([2], [2]), ([], []), ([3, 4], [3, 4]), ([5], [5]), ([6], [6]), ([0, 1, 7], [0, 1, 7])])
def spec_l08Weight.B5 : List Nat := [0, 0, 0, 4, 0, 28, 60, 124, 255]
theorem spec_l08Weight.tab5 : rtab .any (opsOf Try.f27 5) = spec_l08Weight.T5 := by kernel_rfl
theorem spec_l08Weight.bits5 : waitsOk spec_l08Weight.T5.2 spec_l08Weight.B5 = true := by kernel_rfl
set_option maxHeartbeats 8000000 in
set_option maxRecDepth 100000 in
theorem spec_l08Weight.calls (k : Nat) (a0 : Int) (a1_0 : Int) (a1_1 : Int) (a1_2 : Int) (A1_3 : Option Addr) (c1_3 : Nat) (l1_3 : List (S63)) (a2_0 : Int) (a2_1 : Int) (a2_2 : Int) (r : Int) (w : World) (hr1_3 : Kd.C k63 w A1_3 l1_3.length l1_3) (hc1_3 : l1_3.length ≤ c1_3) (h : spec_l08Weight.f k a0 a1_0 a1_1 a1_2 l1_3 a2_0 a2_1 a2_2 = some r) :
  Calls Try.prog 27 #[.int .i64 a0, .agg #[.int .i64 a1_0, .int .i64 a1_1, .int .i64 a1_2, .slice A1_3 l1_3.length c1_3], .agg #[.int .i64 a2_0, .int .i64 a2_1, .int .i64 a2_2]] w fun e w' => e = .returned (.int .i64 r) ∧ Below w.heap.size w w' := by
 have hu33 := Try.underlying33
 have hu30 := Try.underlying30
 have hu63 := Try.underlying63
 have HR1_3 := Aside0.mk hr1_3
 have HC1_3 := Aside0.mk hc1_3
 clear hr1_3 hc1_3
 have HB := Aside0.mk (Below.refl w.heap.size w)
 have H : (spec_l08Weight.l0 k a0 0 0 a1_0 a1_1 a1_2 l1_3 a2_0 a2_1 a2_2) = some r := h
 clear h
 have H' := Aside0.mk H
 clear H
 go_enter Try.func27, Try.ntmps27
 go_wp2_with (first | ((with_reducible refine gate_dst (N := 4) rfl ?_); refine bx_ 4 #[.int .i64 a1_0, .int .i64 a1_1, .int .i64 a1_2, .slice A1_3 l1_3.length c1_3] 33 ?_; intro gb453 hg w4 hbox hb; have BK453 := Aside0.mk (hbox); have GW453 := bs_ HB hg; have GE453 := bs_ HB hg; replace HB := bt_ HB hb; clear hb hbox hg) | ((with_reducible refine gate_dst (N := 5) rfl ?_); refine bx_ 5 #[.int .i64 a2_0, .int .i64 a2_1, .int .i64 a2_2] 30 ?_; intro gb454 hg w5 hbox hb; have BK454 := Aside0.mk (hbox); have GW454 := bs_ HB hg; have GE454 := bs_ HB hg; have NB453_454 := bm_ BK453 hg; have NB454_453 := bn_ BK453 hg; replace BK453 := bb_ BK453 hb; replace HB := bt_ HB hb; clear hb hbox hg))
 go_loopg [7, 8] k (fun kq v7 v8 w' => ∃ (x7_1 : Int) (x8_1 : Int), v7 = .int .i64 x7_1 ∧ v8 = .int .i64 x8_1 ∧ Aside0 (spec_l08Weight.l0 kq a0 x7_1 x8_1 a1_0 a1_1 a1_2 l1_3 a2_0 a2_1 a2_2 = some r) ∧ Aside0 (kq ≤ k) ∧ Aside0 (w'.heap[gb453]? = some (.cells #[.int .i64 a1_0, .int .i64 a1_1, .int .i64 a1_2, (.slice A1_3 l1_3.length c1_3)] 33 (0, 0))) ∧ Aside0 (w'.heap[gb454]? = some (.cells #[.int .i64 a2_0, .int .i64 a2_1, .int .i64 a2_2] 30 (0, 0))) ∧ Aside0 (Below w.heap.size w w'))
 case atStart => exact ⟨(0), (0), (by first | rfl | (simp; done) | (simp [*]; done) | (simp [wrap64]; done)), (by first | rfl | (simp; done) | (simp [*]; done) | (simp [wrap64]; done)), H', ⟨Nat.le_refl _⟩, bl_ BK453, bl_ BK454, bw_ HB⟩
 case round =>
  clear H'
  try clear c1
  try clear c2
  try clear p2
  obtain ⟨x7_1, x8_1, rfl, rfl, HA, HK1, BK453, BK454, HB⟩ := hrel
  cases gk with
  | zero => exact absurd HA.out (by simp [spec_l08Weight.l0])
  | succ k1 =>
   have H := HA.out
   clear HA
   simp only [spec_l08Weight.l0] at H
   by_cases c6 : x8_1 < (l1_3.length : Int)
   ·rw [if_pos c6] at H
    have c6b0 : decide (x8_1 < (l1_3.length : Int)) = true := decide_eq_true c6
    clear c6
    by_cases c7 : 0 ≤ x8_1
    ·rw [if_pos c7] at H
     have c7b0 : decide (0 ≤ x8_1) = true := decide_eq_true c7
     clear c7
     replace H := Option.bind_eq_some_iff.mp H
     obtain ⟨t456, A80, H⟩ := H
     have A8 := Aside0.mk A80
     clear A80
     by_cases c9 : t456 = true
     ·subst c9
      have H1 : (spec_l08Weight.l0 k1 a0 (wrap64 (x7_1 + ((rd_T63 l1_3 x8_1).f1))) (wrap64 (x8_1 + 1)) a1_0 a1_1 a1_2 l1_3 a2_0 a2_1 a2_2) = some r := by rw [if_pos rfl] at H; exact H
      clear H
      have H := H1
      clear H1
      have H' := Aside0.mk H
      clear H
      have hnb10 := NB453_454.out
      have hnc10 := NB454_453.out
      have hcz11_0 : wr.cell? ⟨gb453, 0, none⟩ = some (.int .i64 a1_0) := cz_ BK453 0
      have hcz11_1 : wr.cell? ⟨gb453, 1, none⟩ = some (.int .i64 a1_1) := cz_ BK453 1
      have hcz11_2 : wr.cell? ⟨gb453, 2, none⟩ = some (.int .i64 a1_2) := cz_ BK453 2
      have hcz11_3 : wr.cell? ⟨gb453, 3, none⟩ = some (.slice A1_3 l1_3.length c1_3) := cz_ BK453 3
      have hfz11_0 := fz_ BK453 0
      have hfz11_1 := fz_ BK453 1
      have hfz11_2 := fz_ BK453 2
      have hfz11_3 := fz_ BK453 3
      try go_wp2
      replace BK453 := Aside0.mk (blk_drew BK453.out)
      replace BK454 := Aside0.mk (blk_drew BK454.out)
      replace HB := Aside0.mk (below_drew1 HB.out)
      have p455 : 0 ≤ (x8_1 : Int) := of_decide_eq_true (by first | (with_reducible assumption) | assumption)
      have q455 : x8_1 < (l1_3.length : Int) := of_decide_eq_true (by first | (with_reducible assumption) | assumption)
      obtain ⟨ad455, e455, hx455_0, hx455_1, hx455_2, hx455_3⟩ := at_T63 HR1_3.out x8_1 p455 q455
      have hw455_3 := hx455_3
      have hw455_2 := hx455_2
      have hw455_1 := hx455_1
      have hw455_0 := hx455_0
      cases e455
      replace hx455_0 := clTr HB.out hx455_0
      replace hx455_1 := clTr HB.out hx455_1
      replace hx455_2 := clTr HB.out hx455_2
      replace hx455_3 := clTr HB.out hx455_3
      replace p455 := eq_true p455
      replace q455 := eq_true q455
      refine start_ (n := 9) (S := fun w' => w'.cell? ⟨gb454, 0, none⟩ = some (.int .i64 a2_0) ∧ w'.cell? ⟨gb454, 1, none⟩ = some (.int .i64 a2_1) ∧ w'.cell? ⟨gb454, 2, none⟩ = some (.int .i64 a2_2) ∧ w'.cell? ⟨gb453, 0, none⟩ = some (.int .i64 a1_0) ∧ w'.cell? ⟨gb453, 1, none⟩ = some (.int .i64 a1_1) ∧ w'.cell? ⟨gb453, 2, none⟩ = some (.int .i64 a1_2) ∧ w'.cell? ⟨gb453, 3, none⟩ = some (.slice (some ad455) l1_3.length c1_3) ∧ w'.cell? (ad455.add ((x8_1).toNat * 4)) = some (.int .i64 ((rd_T63 l1_3 x8_1).f0.f0)) ∧ w'.cell? ⟨(ad455.add ((x8_1).toNat * 4)).block, (ad455.add ((x8_1).toNat * 4)).off + 1, none⟩ = some (.int .i64 ((rd_T63 l1_3 x8_1).f0.f1)) ∧ w'.cell? ⟨(ad455.add ((x8_1).toNat * 4)).block, (ad455.add ((x8_1).toNat * 4)).off + 2, none⟩ = some (.int .i64 ((rd_T63 l1_3 x8_1).f0.f2)) ∧ w'.cell? ⟨(ad455.add ((x8_1).toNat * 4)).block, (ad455.add ((x8_1).toNat * 4)).off + 3, none⟩ = some (.int .i64 ((rd_T63 l1_3 x8_1).f1))) (ds := []) (bv_ 9 0) (by kernel_rfl) rfl rfl ⟨(blk_cell BK454.out 0).trans rfl, (blk_cell BK454.out 1).trans rfl, (blk_cell BK454.out 2).trans rfl, (blk_cell BK453.out 0).trans rfl, (blk_cell BK453.out 1).trans rfl, (blk_cell BK453.out 2).trans rfl, (blk_cell BK453.out 3).trans rfl, (clTr HB.out hw455_0 :), (clTr HB.out hw455_1 :), (clTr HB.out hw455_2 :), (clTr HB.out hw455_3 :)⟩ (fun hHeld => ?_); refine with_tabW spec_l08Weight.tab5 spec_l08Weight.bits5 (fun HT_ HW_ => ?_)
      generalize wr.drew = w12 at BK453 BK454 HB hx455_0 hx455_1 hx455_2 hx455_3 hHeld ⊢
      refine pu_ HT_ 0 (some 16) (bv_ 9 1) ?_
      refine pu_ HT_ 2 (some 18) (bv_ 9 5) ?_
      refine pu_ HT_ 4 (some 20) (bv_ 9 21) ?_
      refine ta_ HT_ HW_ 1 (some 17) (bv_ 9 23) hHeld ?_ (hy := by rintro w' ⟨s0, s1, s2, s3, s4, s5, s6, s7, s8, s9, s10⟩; go_simp; with_reducible rfl)
      refine ta_ HT_ HW_ 3 (some 19) (bv_ 9 31) hHeld ?_ (hy := by rintro w' ⟨s0, s1, s2, s3, s4, s5, s6, s7, s8, s9, s10⟩; go_simp; with_reducible rfl)
      refine pu_ HT_ 5 (some 21) (bv_ 9 63) ?_
      refine pu_ HT_ 6 (some 22) (bv_ 9 127) ?_
      refine ta_ HT_ HW_ 7 (some 23) (bv_ 9 255) hHeld ?_ (hy := by rintro w' ⟨s0, s1, s2, s3, s4, s5, s6, s7, s8, s9, s10⟩; go_simp; with_reducible rfl)
      refine one_ (i := 8) (N := some 24) (bv_ 9 511) rfl rfl (one_of HT_.out (by kernel_rfl)) (by decide) (fun K hK => ?_)
      refine goes_ Try.func54 (by kernel_rfl) rfl #[.int .i64 a0, .agg #[.int .i64 a2_0, .int .i64 a2_1, .int .i64 a2_2], .agg #[.int .i64 ((rd_T63 l1_3 x8_1).f0.f0), .int .i64 ((rd_T63 l1_3 x8_1).f0.f1), .int .i64 ((rd_T63 l1_3 x8_1).f0.f2)]] (by rfl) rfl rfl (by (try simp only [List.map_toArray, List.map_cons, List.map_nil]); first | done | rfl | (simp only [List.length_drop, List.length_take]; rfl)) ?_
      with_reducible refine (spec_l01Holds.calls k1 a0 a2_0 a2_1 a2_2 ((rd_T63 l1_3 x8_1).f0.f0) ((rd_T63 l1_3 x8_1).f0.f1) ((rd_T63 l1_3 x8_1).f0.f2) true _ A8.out).mono ?_
      rintro e w13 ⟨rfl, hb⟩
      refine ⟨_, rfl, ?_⟩
      replace BK453 := bb_ BK453 hb
      replace BK454 := bb_ BK454 hb
      replace HB := bt_ HB hb
      (try clear hb)
      (try clear hb2)
      (try clear hk)
      (try clear hi)
      refine hK.out _ _ ⟨(blk_cell BK454.out 0).trans rfl, (blk_cell BK454.out 1).trans rfl, (blk_cell BK454.out 2).trans rfl, (blk_cell BK453.out 0).trans rfl, (blk_cell BK453.out 1).trans rfl, (blk_cell BK453.out 2).trans rfl, (blk_cell BK453.out 3).trans rfl, (clTr HB.out hw455_0 :), (clTr HB.out hw455_1 :), (clTr HB.out hw455_2 :), (clTr HB.out hw455_3 :)⟩ (fun hHeld => ?_)
      clear hK K
      refine norm_ (a' := ?_) ?_ ?_
      rotate_left
      ·show Act.put _ (some 24) _ = _
       simp only [Act.put, lstS, lstZ, lstC, i64_w, i32_w]
       rfl
      refine done_ (done_of HT_.out (by kernel_rfl)) ?_
      have hcz14_0 : w13.cell? ⟨gb453, 0, none⟩ = some (.int .i64 a1_0) := cz_ BK453 0
      have hcz14_1 : w13.cell? ⟨gb453, 1, none⟩ = some (.int .i64 a1_1) := cz_ BK453 1
      have hcz14_2 : w13.cell? ⟨gb453, 2, none⟩ = some (.int .i64 a1_2) := cz_ BK453 2
      have hcz14_3 : w13.cell? ⟨gb453, 3, none⟩ = some (.slice (some ad455) l1_3.length c1_3) := cz_ BK453 3
      have hfz14_0 := fz_ BK453 0
      have hfz14_1 := fz_ BK453 1
      have hfz14_2 := fz_ BK453 2
      have hfz14_3 := fz_ BK453 3
      have p457 : 0 ≤ (x8_1 : Int) := of_decide_eq_true (by first | (with_reducible assumption) | assumption)
      have q457 : x8_1 < (l1_3.length : Int) := of_decide_eq_true (by first | (with_reducible assumption) | assumption)
      obtain ⟨ad457, e457, hx457_0, hx457_1, hx457_2, hx457_3⟩ := at_T63 HR1_3.out x8_1 p457 q457
      obtain rfl : ad455 = ad457 := (by injection e457)
      replace hx457_0 := clTr HB.out hx457_0
      replace hx457_1 := clTr HB.out hx457_1
      replace hx457_2 := clTr HB.out hx457_2
      replace hx457_3 := clTr HB.out hx457_3
      replace p457 := eq_true p457
      replace q457 := eq_true q457
      try go_wp2
      go_roundg k1
      case measure => have := HK1.out; omega
      case rel => exact ⟨(wrap64 (x7_1 + ((rd_T63 l1_3 x8_1).f1))), (wrap64 (x8_1 + 1)), (by first | rfl | (simp; done) | (simp [*]; done) | (simp [wrap64]; done)), (by first | rfl | (simp; done) | (simp [*]; done) | (simp [wrap64]; done)), H', ⟨by have := HK1.out; omega⟩, bl_ BK453, bl_ BK454, bw_ HB⟩
     ·replace c9 := Bool.eq_false_iff.mpr c9
      subst c9
      have H1 : (spec_l08Weight.l0 k1 a0 x7_1 (wrap64 (x8_1 + 1)) a1_0 a1_1 a1_2 l1_3 a2_0 a2_1 a2_2) = some r := by rw [if_neg (show ¬ (false = true) by decide)] at H; exact H
      clear H
      have H := H1
      clear H1
      have H' := Aside0.mk H
      clear H
      have hnb15 := NB453_454.out
      have hnc15 := NB454_453.out
      have hcz16_0 : wr.cell? ⟨gb453, 0, none⟩ = some (.int .i64 a1_0) := cz_ BK453 0
      have hcz16_1 : wr.cell? ⟨gb453, 1, none⟩ = some (.int .i64 a1_1) := cz_ BK453 1
      have hcz16_2 : wr.cell? ⟨gb453, 2, none⟩ = some (.int .i64 a1_2) := cz_ BK453 2
      have hcz16_3 : wr.cell? ⟨gb453, 3, none⟩ = some (.slice A1_3 l1_3.length c1_3) := cz_ BK453 3
      have hfz16_0 := fz_ BK453 0
      have hfz16_1 := fz_ BK453 1
      have hfz16_2 := fz_ BK453 2
      have hfz16_3 := fz_ BK453 3
      try go_wp2
      replace BK453 := Aside0.mk (blk_drew BK453.out)
      replace BK454 := Aside0.mk (blk_drew BK454.out)
      replace HB := Aside0.mk (below_drew1 HB.out)
      have p455 : 0 ≤ (x8_1 : Int) := of_decide_eq_true (by first | (with_reducible assumption) | assumption)
      have q455 : x8_1 < (l1_3.length : Int) := of_decide_eq_true (by first | (with_reducible assumption) | assumption)
      obtain ⟨ad455, e455, hx455_0, hx455_1, hx455_2, hx455_3⟩ := at_T63 HR1_3.out x8_1 p455 q455
      have hw455_3 := hx455_3
      have hw455_2 := hx455_2
      have hw455_1 := hx455_1
      have hw455_0 := hx455_0
      cases e455
      replace hx455_0 := clTr HB.out hx455_0
      replace hx455_1 := clTr HB.out hx455_1
      replace hx455_2 := clTr HB.out hx455_2
      replace hx455_3 := clTr HB.out hx455_3
      replace p455 := eq_true p455
      replace q455 := eq_true q455
      refine start_ (n := 9) (S := fun w' => w'.cell? ⟨gb454, 0, none⟩ = some (.int .i64 a2_0) ∧ w'.cell? ⟨gb454, 1, none⟩ = some (.int .i64 a2_1) ∧ w'.cell? ⟨gb454, 2, none⟩ = some (.int .i64 a2_2) ∧ w'.cell? ⟨gb453, 0, none⟩ = some (.int .i64 a1_0) ∧ w'.cell? ⟨gb453, 1, none⟩ = some (.int .i64 a1_1) ∧ w'.cell? ⟨gb453, 2, none⟩ = some (.int .i64 a1_2) ∧ w'.cell? ⟨gb453, 3, none⟩ = some (.slice (some ad455) l1_3.length c1_3) ∧ w'.cell? (ad455.add ((x8_1).toNat * 4)) = some (.int .i64 ((rd_T63 l1_3 x8_1).f0.f0)) ∧ w'.cell? ⟨(ad455.add ((x8_1).toNat * 4)).block, (ad455.add ((x8_1).toNat * 4)).off + 1, none⟩ = some (.int .i64 ((rd_T63 l1_3 x8_1).f0.f1)) ∧ w'.cell? ⟨(ad455.add ((x8_1).toNat * 4)).block, (ad455.add ((x8_1).toNat * 4)).off + 2, none⟩ = some (.int .i64 ((rd_T63 l1_3 x8_1).f0.f2)) ∧ w'.cell? ⟨(ad455.add ((x8_1).toNat * 4)).block, (ad455.add ((x8_1).toNat * 4)).off + 3, none⟩ = some (.int .i64 ((rd_T63 l1_3 x8_1).f1))) (ds := []) (bv_ 9 0) (by kernel_rfl) rfl rfl ⟨(blk_cell BK454.out 0).trans rfl, (blk_cell BK454.out 1).trans rfl, (blk_cell BK454.out 2).trans rfl, (blk_cell BK453.out 0).trans rfl, (blk_cell BK453.out 1).trans rfl, (blk_cell BK453.out 2).trans rfl, (blk_cell BK453.out 3).trans rfl, (clTr HB.out hw455_0 :), (clTr HB.out hw455_1 :), (clTr HB.out hw455_2 :), (clTr HB.out hw455_3 :)⟩ (fun hHeld => ?_); refine with_tabW spec_l08Weight.tab5 spec_l08Weight.bits5 (fun HT_ HW_ => ?_)
      generalize wr.drew = w17 at BK453 BK454 HB hx455_0 hx455_1 hx455_2 hx455_3 hHeld ⊢
      refine pu_ HT_ 0 (some 16) (bv_ 9 1) ?_
      refine pu_ HT_ 2 (some 18) (bv_ 9 5) ?_
      refine pu_ HT_ 4 (some 20) (bv_ 9 21) ?_
      refine ta_ HT_ HW_ 1 (some 17) (bv_ 9 23) hHeld ?_ (hy := by rintro w' ⟨s0, s1, s2, s3, s4, s5, s6, s7, s8, s9, s10⟩; go_simp; with_reducible rfl)
      refine ta_ HT_ HW_ 3 (some 19) (bv_ 9 31) hHeld ?_ (hy := by rintro w' ⟨s0, s1, s2, s3, s4, s5, s6, s7, s8, s9, s10⟩; go_simp; with_reducible rfl)
      refine pu_ HT_ 5 (some 21) (bv_ 9 63) ?_
      refine pu_ HT_ 6 (some 22) (bv_ 9 127) ?_
      refine ta_ HT_ HW_ 7 (some 23) (bv_ 9 255) hHeld ?_ (hy := by rintro w' ⟨s0, s1, s2, s3, s4, s5, s6, s7, s8, s9, s10⟩; go_simp; with_reducible rfl)
      refine one_ (i := 8) (N := some 24) (bv_ 9 511) rfl rfl (one_of HT_.out (by kernel_rfl)) (by decide) (fun K hK => ?_)
      refine goes_ Try.func54 (by kernel_rfl) rfl #[.int .i64 a0, .agg #[.int .i64 a2_0, .int .i64 a2_1, .int .i64 a2_2], .agg #[.int .i64 ((rd_T63 l1_3 x8_1).f0.f0), .int .i64 ((rd_T63 l1_3 x8_1).f0.f1), .int .i64 ((rd_T63 l1_3 x8_1).f0.f2)]] (by rfl) rfl rfl (by (try simp only [List.map_toArray, List.map_cons, List.map_nil]); first | done | rfl | (simp only [List.length_drop, List.length_take]; rfl)) ?_
      with_reducible refine (spec_l01Holds.calls k1 a0 a2_0 a2_1 a2_2 ((rd_T63 l1_3 x8_1).f0.f0) ((rd_T63 l1_3 x8_1).f0.f1) ((rd_T63 l1_3 x8_1).f0.f2) false _ A8.out).mono ?_
      rintro e w18 ⟨rfl, hb⟩
      refine ⟨_, rfl, ?_⟩
      replace BK453 := bb_ BK453 hb
      replace BK454 := bb_ BK454 hb
      replace HB := bt_ HB hb
      (try clear hb)
      (try clear hb2)
      (try clear hk)
      (try clear hi)
      refine hK.out _ _ ⟨(blk_cell BK454.out 0).trans rfl, (blk_cell BK454.out 1).trans rfl, (blk_cell BK454.out 2).trans rfl, (blk_cell BK453.out 0).trans rfl, (blk_cell BK453.out 1).trans rfl, (blk_cell BK453.out 2).trans rfl, (blk_cell BK453.out 3).trans rfl, (clTr HB.out hw455_0 :), (clTr HB.out hw455_1 :), (clTr HB.out hw455_2 :), (clTr HB.out hw455_3 :)⟩ (fun hHeld => ?_)
      clear hK K
      refine norm_ (a' := ?_) ?_ ?_
      rotate_left
      ·show Act.put _ (some 24) _ = _
       simp only [Act.put, lstS, lstZ, lstC, i64_w, i32_w]
       rfl
      refine done_ (done_of HT_.out (by kernel_rfl)) ?_
      try go_wp2
      go_roundg k1
      case measure => have := HK1.out; omega
      case rel => exact ⟨(x7_1), (wrap64 (x8_1 + 1)), (by first | rfl | (simp; done) | (simp [*]; done) | (simp [wrap64]; done)), (by first | rfl | (simp; done) | (simp [*]; done) | (simp [wrap64]; done)), H', ⟨by have := HK1.out; omega⟩, bl_ BK453, bl_ BK454, bw_ HB⟩
    ·rw [if_neg c7] at H
     exact absurd H (by simp)
   ·rw [if_neg c6] at H
    have c6b0 : decide (x8_1 < (l1_3.length : Int)) = false := decide_eq_false c6
    clear c6
    obtain rfl := Option.some.inj H
    have hnb19 := NB453_454.out
    have hnc19 := NB454_453.out
    have hcz20_0 : wr.cell? ⟨gb453, 0, none⟩ = some (.int .i64 a1_0) := cz_ BK453 0
    have hcz20_1 : wr.cell? ⟨gb453, 1, none⟩ = some (.int .i64 a1_1) := cz_ BK453 1
    have hcz20_2 : wr.cell? ⟨gb453, 2, none⟩ = some (.int .i64 a1_2) := cz_ BK453 2
    have hcz20_3 : wr.cell? ⟨gb453, 3, none⟩ = some (.slice A1_3 l1_3.length c1_3) := cz_ BK453 3
    have hfz20_0 := fz_ BK453 0
    have hfz20_1 := fz_ BK453 1
    have hfz20_2 := fz_ BK453 2
    have hfz20_3 := fz_ BK453 3
    go_wp2
    go_ret
    exact ⟨by first | rfl | (simp [errW_none, errW_some] <;> rfl) | (simp [*, errW_none, errW_some] <;> rfl), by repeat (first | (with_reducible first | exact HB.out | apply below_alloc | apply pw_below_drewN | apply below_drew1 | refine below_set ?_ GE453.out | refine below_set ?_ GE454.out) | exact HB.out)⟩
/-! ### spec_WeightOf: function 8 -/
def spec_WeightOf.f (k : Nat) (a0 : Int) (a1_0 : Int) (a1_1 : Int) (a1_2 : Int) (l1_3 : List (S63)) (a2_0 : Int) (a2_1 : Int) (a2_2 : Int) : Option (Int × Int) := (spec_l08Code.f k a0 a1_0 a1_1 a1_2 l1_3 a2_0 a2_1 a2_2).bind fun t460 => (if t460 = 0 then ((spec_l08Within.f k a0 a1_0 a1_1 a1_2 l1_3 a2_0 a2_1 a2_2).bind fun bt461 => (if bt461.1 = true then (if bt461.2 = true then ((spec_l08Weight.f k a0 a1_0 a1_1 a1_2 l1_3 a2_0 a2_1 a2_2).bind fun t463 => (some (t463, 0))) else (some (0, 5))) else ((spec_l08Weight.f k a0 a1_0 a1_1 a1_2 l1_3 a2_0 a2_1 a2_2).bind fun t464 => (some (t464, 0))))) else (some (0, t460)))
set_option maxHeartbeats 8000000 in
set_option maxRecDepth 100000 in
theorem spec_WeightOf.calls (k : Nat) (a0 : Int) (a1_0 : Int) (a1_1 : Int) (a1_2 : Int) (A1_3 : Option Addr) (c1_3 : Nat) (l1_3 : List (S63)) (a2_0 : Int) (a2_1 : Int) (a2_2 : Int) (r1 : Int) (r2 : Int) (w : World) (hr1_3 : Kd.C k63 w A1_3 l1_3.length l1_3) (hc1_3 : l1_3.length ≤ c1_3) (h : spec_WeightOf.f k a0 a1_0 a1_1 a1_2 l1_3 a2_0 a2_1 a2_2 = some (r1, r2)) :
  Calls Try.prog 8 #[.int .i64 a0, .agg #[.int .i64 a1_0, .int .i64 a1_1, .int .i64 a1_2, .slice A1_3 l1_3.length c1_3], .agg #[.int .i64 a2_0, .int .i64 a2_1, .int .i64 a2_2]] w fun e w' => e = .returned (.tuple #[.int .i64 r1, .int .i64 r2]) ∧ Below w.heap.size w w' := by
 have hu33 := Try.underlying33
 have hu30 := Try.underlying30
 have HR1_3 := Aside0.mk hr1_3
 have HC1_3 := Aside0.mk hc1_3
 clear hr1_3 hc1_3
 have HB := Aside0.mk (Below.refl w.heap.size w)
 have H : ((spec_l08Code.f k a0 a1_0 a1_1 a1_2 l1_3 a2_0 a2_1 a2_2).bind fun t460 => (if t460 = 0 then ((spec_l08Within.f k a0 a1_0 a1_1 a1_2 l1_3 a2_0 a2_1 a2_2).bind fun bt461 => (if bt461.1 = true then (if bt461.2 = true then ((spec_l08Weight.f k a0 a1_0 a1_1 a1_2 l1_3 a2_0 a2_1 a2_2).bind fun t463 => (some (t463, 0))) else (some (0, 5))) else ((spec_l08Weight.f k a0 a1_0 a1_1 a1_2 l1_3 a2_0 a2_1 a2_2).bind fun t464 => (some (t464, 0))))) else (some (0, t460)))) = some (r1, r2) := h
 clear h
 replace H := Option.bind_eq_some_iff.mp H
 obtain ⟨t460, A40, H⟩ := H
 have A4 := Aside0.mk A40
 clear A40
 by_cases c5 : t460 = 0
 ·rw [if_pos c5] at H
  have c5b0 : (t460 == 0) = true := beq_iff_eq.mpr c5
  have c5b1 : (t460 != 0) = false := bne_eq_false_iff_eq.mpr c5
  clear c5
  replace H := Option.bind_eq_some_iff.mp H
  obtain ⟨⟨t461, t462⟩, A60, H⟩ := H
  have A6 := Aside0.mk A60
  clear A60
  by_cases c7 : t461 = true
  ·subst c7
   have H1 : (if t462 = true then ((spec_l08Weight.f k a0 a1_0 a1_1 a1_2 l1_3 a2_0 a2_1 a2_2).bind fun t463 => (some (t463, 0))) else (some (0, 5))) = some (r1, r2) := by rw [if_pos rfl] at H; exact H
   clear H
   have H := H1
   clear H1
   by_cases c8 : t462 = true
   ·subst c8
    have H1 : ((spec_l08Weight.f k a0 a1_0 a1_1 a1_2 l1_3 a2_0 a2_1 a2_2).bind fun t463 => (some (t463, 0))) = some (r1, r2) := by rw [if_pos rfl] at H; exact H
    clear H
    have H := H1
    clear H1
    replace H := Option.bind_eq_some_iff.mp H
    obtain ⟨t463, A90, H⟩ := H
    have A9 := Aside0.mk A90
    clear A90
    simp only [Option.some.injEq, Prod.mk.injEq] at H
    obtain ⟨rfl, rfl⟩ := H
    go_enter Try.func8, Try.ntmps8
    go_wp2_with (first | ((with_reducible refine gate_dst (N := 4) rfl ?_); refine bx_ 4 #[.int .i64 a1_0, .int .i64 a1_1, .int .i64 a1_2, .slice A1_3 l1_3.length c1_3] 33 ?_; intro gb458 hg w10 hbox hb; have BK458 := Aside0.mk (hbox); have GW458 := bs_ HB hg; have GE458 := bs_ HB hg; replace HB := bt_ HB hb; clear hb hbox hg) | ((with_reducible refine gate_dst (N := 5) rfl ?_); refine bx_ 5 #[.int .i64 a2_0, .int .i64 a2_1, .int .i64 a2_2] 30 ?_; intro gb459 hg w11 hbox hb; have BK459 := Aside0.mk (hbox); have GW459 := bs_ HB hg; have GE459 := bs_ HB hg; have NB458_459 := bm_ BK458 hg; have NB459_458 := bn_ BK458 hg; replace BK458 := bb_ BK458 hb; replace HB := bt_ HB hb; clear hb hbox hg; have hnb12 := NB458_459.out; have hnc12 := NB459_458.out; have hcz13_0 : w11.cell? ⟨gb458, 0, none⟩ = some (.int .i64 a1_0) := cz_ BK458 0; have hcz13_1 : w11.cell? ⟨gb458, 1, none⟩ = some (.int .i64 a1_1) := cz_ BK458 1; have hcz13_2 : w11.cell? ⟨gb458, 2, none⟩ = some (.int .i64 a1_2) := cz_ BK458 2; have hcz13_3 : w11.cell? ⟨gb458, 3, none⟩ = some (.slice A1_3 l1_3.length c1_3) := cz_ BK458 3; have hfz13_0 := fz_ BK458 0; have hfz13_1 := fz_ BK458 1; have hfz13_2 := fz_ BK458 2; have hfz13_3 := fz_ BK458 3; have hcz14_0 : w11.cell? ⟨gb459, 0, none⟩ = some (.int .i64 a2_0) := cz_ BK459 0; have hcz14_1 : w11.cell? ⟨gb459, 1, none⟩ = some (.int .i64 a2_1) := cz_ BK459 1; have hcz14_2 : w11.cell? ⟨gb459, 2, none⟩ = some (.int .i64 a2_2) := cz_ BK459 2; have hfz14_0 := fz_ BK459 0; have hfz14_1 := fz_ BK459 1; have hfz14_2 := fz_ BK459 2) | ((with_reducible refine gate_callee (f := 25) rfl ?_); refine ge_ 14 Try.func25 #[.int .i64 a0, .agg #[.int .i64 a1_0, .int .i64 a1_1, .int .i64 a1_2, .slice A1_3 l1_3.length c1_3], .agg #[.int .i64 a2_0, .int .i64 a2_1, .int .i64 a2_2]] ?_; (with_reducible refine (spec_l08Code.calls k a0 a1_0 a1_1 a1_2 _ _ l1_3 a2_0 a2_1 a2_2 t460 _ ?side1 ?side2 A4.out).mono ?_); (case side1 => repeat (first | exact (Kd.C_below HR1_3.out HB.out) | (with_reducible refine Kd.C_alloc ?_ _) | (with_reducible refine Kd.C_drewN ?_ _) | (with_reducible refine Kd.C_drew ?_))); (case side2 => exact HC1_3.out); rintro e w15 ⟨rfl, hb⟩; refine ⟨_, rfl, ?_⟩; replace BK458 := bb_ BK458 hb; replace BK459 := bb_ BK459 hb; replace HB := bt_ HB hb; (try clear hb); (try clear hb2); (try clear hk); (try clear hi); have hcz16_0 : w15.cell? ⟨gb458, 0, none⟩ = some (.int .i64 a1_0) := cz_ BK458 0; have hcz16_1 : w15.cell? ⟨gb458, 1, none⟩ = some (.int .i64 a1_1) := cz_ BK458 1; have hcz16_2 : w15.cell? ⟨gb458, 2, none⟩ = some (.int .i64 a1_2) := cz_ BK458 2; have hcz16_3 : w15.cell? ⟨gb458, 3, none⟩ = some (.slice A1_3 l1_3.length c1_3) := cz_ BK458 3; have hfz16_0 := fz_ BK458 0; have hfz16_1 := fz_ BK458 1; have hfz16_2 := fz_ BK458 2; have hfz16_3 := fz_ BK458 3; have hcz17_0 : w15.cell? ⟨gb459, 0, none⟩ = some (.int .i64 a2_0) := cz_ BK459 0; have hcz17_1 : w15.cell? ⟨gb459, 1, none⟩ = some (.int .i64 a2_1) := cz_ BK459 1; have hcz17_2 : w15.cell? ⟨gb459, 2, none⟩ = some (.int .i64 a2_2) := cz_ BK459 2; have hfz17_0 := fz_ BK459 0; have hfz17_1 := fz_ BK459 1; have hfz17_2 := fz_ BK459 2) | ((with_reducible refine gate_callee (f := 26) rfl ?_); refine ge_ 22 Try.func26 #[.int .i64 a0, .agg #[.int .i64 a1_0, .int .i64 a1_1, .int .i64 a1_2, .slice A1_3 l1_3.length c1_3], .agg #[.int .i64 a2_0, .int .i64 a2_1, .int .i64 a2_2]] ?_; (with_reducible refine (spec_l08Within.calls k a0 a1_0 a1_1 a1_2 _ _ l1_3 a2_0 a2_1 a2_2 true true _ ?side1 ?side2 A6.out).mono ?_); (case side1 => repeat (first | exact (Kd.C_below HR1_3.out HB.out) | (with_reducible refine Kd.C_alloc ?_ _) | (with_reducible refine Kd.C_drewN ?_ _) | (with_reducible refine Kd.C_drew ?_))); (case side2 => exact HC1_3.out); rintro e w18 ⟨rfl, hb⟩; refine ⟨_, rfl, ?_⟩; replace BK458 := bb_ BK458 hb; replace BK459 := bb_ BK459 hb; replace HB := bt_ HB hb; (try clear hb); (try clear hb2); (try clear hk); (try clear hi); have hcz19_0 : w18.cell? ⟨gb458, 0, none⟩ = some (.int .i64 a1_0) := cz_ BK458 0; have hcz19_1 : w18.cell? ⟨gb458, 1, none⟩ = some (.int .i64 a1_1) := cz_ BK458 1; have hcz19_2 : w18.cell? ⟨gb458, 2, none⟩ = some (.int .i64 a1_2) := cz_ BK458 2; have hcz19_3 : w18.cell? ⟨gb458, 3, none⟩ = some (.slice A1_3 l1_3.length c1_3) := cz_ BK458 3; have hfz19_0 := fz_ BK458 0; have hfz19_1 := fz_ BK458 1; have hfz19_2 := fz_ BK458 2; have hfz19_3 := fz_ BK458 3; have hcz20_0 : w18.cell? ⟨gb459, 0, none⟩ = some (.int .i64 a2_0) := cz_ BK459 0; have hcz20_1 : w18.cell? ⟨gb459, 1, none⟩ = some (.int .i64 a2_1) := cz_ BK459 1; have hcz20_2 : w18.cell? ⟨gb459, 2, none⟩ = some (.int .i64 a2_2) := cz_ BK459 2; have hfz20_0 := fz_ BK459 0; have hfz20_1 := fz_ BK459 1; have hfz20_2 := fz_ BK459 2) | ((with_reducible refine gate_callee (f := 27) rfl ?_); refine ge_ 33 Try.func27 #[.int .i64 a0, .agg #[.int .i64 a1_0, .int .i64 a1_1, .int .i64 a1_2, .slice A1_3 l1_3.length c1_3], .agg #[.int .i64 a2_0, .int .i64 a2_1, .int .i64 a2_2]] ?_; (with_reducible refine (spec_l08Weight.calls k a0 a1_0 a1_1 a1_2 _ _ l1_3 a2_0 a2_1 a2_2 t463 _ ?side1 ?side2 A9.out).mono ?_); (case side1 => repeat (first | exact (Kd.C_below HR1_3.out HB.out) | (with_reducible refine Kd.C_alloc ?_ _) | (with_reducible refine Kd.C_drewN ?_ _) | (with_reducible refine Kd.C_drew ?_))); (case side2 => exact HC1_3.out); rintro e w21 ⟨rfl, hb⟩; refine ⟨_, rfl, ?_⟩; replace BK458 := bb_ BK458 hb; replace BK459 := bb_ BK459 hb; replace HB := bt_ HB hb; (try clear hb); (try clear hb2); (try clear hk); (try clear hi)))
    go_ret2
    exact ⟨by first | rfl | (simp [errW_none, errW_some] <;> rfl) | (simp [*, errW_none, errW_some] <;> rfl), by repeat (first | (with_reducible first | exact HB.out | apply below_alloc | apply pw_below_drewN | apply below_drew1 | refine below_set ?_ GE458.out | refine below_set ?_ GE459.out) | exact HB.out)⟩
   ·replace c8 := Bool.eq_false_iff.mpr c8
    subst c8
    have H1 : (some (0, 5)) = some (r1, r2) := by rw [if_neg (show ¬ (false = true) by decide)] at H; exact H
    clear H
    have H := H1
    clear H1
    simp only [Option.some.injEq, Prod.mk.injEq] at H
    obtain ⟨rfl, rfl⟩ := H
    go_enter Try.func8, Try.ntmps8
    go_wp2_with (first | ((with_reducible refine gate_dst (N := 4) rfl ?_); refine bx_ 4 #[.int .i64 a1_0, .int .i64 a1_1, .int .i64 a1_2, .slice A1_3 l1_3.length c1_3] 33 ?_; intro gb458 hg w22 hbox hb; have BK458 := Aside0.mk (hbox); have GW458 := bs_ HB hg; have GE458 := bs_ HB hg; replace HB := bt_ HB hb; clear hb hbox hg) | ((with_reducible refine gate_dst (N := 5) rfl ?_); refine bx_ 5 #[.int .i64 a2_0, .int .i64 a2_1, .int .i64 a2_2] 30 ?_; intro gb459 hg w23 hbox hb; have BK459 := Aside0.mk (hbox); have GW459 := bs_ HB hg; have GE459 := bs_ HB hg; have NB458_459 := bm_ BK458 hg; have NB459_458 := bn_ BK458 hg; replace BK458 := bb_ BK458 hb; replace HB := bt_ HB hb; clear hb hbox hg; have hnb24 := NB458_459.out; have hnc24 := NB459_458.out; have hcz25_0 : w23.cell? ⟨gb458, 0, none⟩ = some (.int .i64 a1_0) := cz_ BK458 0; have hcz25_1 : w23.cell? ⟨gb458, 1, none⟩ = some (.int .i64 a1_1) := cz_ BK458 1; have hcz25_2 : w23.cell? ⟨gb458, 2, none⟩ = some (.int .i64 a1_2) := cz_ BK458 2; have hcz25_3 : w23.cell? ⟨gb458, 3, none⟩ = some (.slice A1_3 l1_3.length c1_3) := cz_ BK458 3; have hfz25_0 := fz_ BK458 0; have hfz25_1 := fz_ BK458 1; have hfz25_2 := fz_ BK458 2; have hfz25_3 := fz_ BK458 3; have hcz26_0 : w23.cell? ⟨gb459, 0, none⟩ = some (.int .i64 a2_0) := cz_ BK459 0; have hcz26_1 : w23.cell? ⟨gb459, 1, none⟩ = some (.int .i64 a2_1) := cz_ BK459 1; have hcz26_2 : w23.cell? ⟨gb459, 2, none⟩ = some (.int .i64 a2_2) := cz_ BK459 2; have hfz26_0 := fz_ BK459 0; have hfz26_1 := fz_ BK459 1; have hfz26_2 := fz_ BK459 2) | ((with_reducible refine gate_callee (f := 25) rfl ?_); refine ge_ 14 Try.func25 #[.int .i64 a0, .agg #[.int .i64 a1_0, .int .i64 a1_1, .int .i64 a1_2, .slice A1_3 l1_3.length c1_3], .agg #[.int .i64 a2_0, .int .i64 a2_1, .int .i64 a2_2]] ?_; (with_reducible refine (spec_l08Code.calls k a0 a1_0 a1_1 a1_2 _ _ l1_3 a2_0 a2_1 a2_2 t460 _ ?side1 ?side2 A4.out).mono ?_); (case side1 => repeat (first | exact (Kd.C_below HR1_3.out HB.out) | (with_reducible refine Kd.C_alloc ?_ _) | (with_reducible refine Kd.C_drewN ?_ _) | (with_reducible refine Kd.C_drew ?_))); (case side2 => exact HC1_3.out); rintro e w27 ⟨rfl, hb⟩; refine ⟨_, rfl, ?_⟩; replace BK458 := bb_ BK458 hb; replace BK459 := bb_ BK459 hb; replace HB := bt_ HB hb; (try clear hb); (try clear hb2); (try clear hk); (try clear hi); have hcz28_0 : w27.cell? ⟨gb458, 0, none⟩ = some (.int .i64 a1_0) := cz_ BK458 0; have hcz28_1 : w27.cell? ⟨gb458, 1, none⟩ = some (.int .i64 a1_1) := cz_ BK458 1; have hcz28_2 : w27.cell? ⟨gb458, 2, none⟩ = some (.int .i64 a1_2) := cz_ BK458 2; have hcz28_3 : w27.cell? ⟨gb458, 3, none⟩ = some (.slice A1_3 l1_3.length c1_3) := cz_ BK458 3; have hfz28_0 := fz_ BK458 0; have hfz28_1 := fz_ BK458 1; have hfz28_2 := fz_ BK458 2; have hfz28_3 := fz_ BK458 3; have hcz29_0 : w27.cell? ⟨gb459, 0, none⟩ = some (.int .i64 a2_0) := cz_ BK459 0; have hcz29_1 : w27.cell? ⟨gb459, 1, none⟩ = some (.int .i64 a2_1) := cz_ BK459 1; have hcz29_2 : w27.cell? ⟨gb459, 2, none⟩ = some (.int .i64 a2_2) := cz_ BK459 2; have hfz29_0 := fz_ BK459 0; have hfz29_1 := fz_ BK459 1; have hfz29_2 := fz_ BK459 2) | ((with_reducible refine gate_callee (f := 26) rfl ?_); refine ge_ 22 Try.func26 #[.int .i64 a0, .agg #[.int .i64 a1_0, .int .i64 a1_1, .int .i64 a1_2, .slice A1_3 l1_3.length c1_3], .agg #[.int .i64 a2_0, .int .i64 a2_1, .int .i64 a2_2]] ?_; (with_reducible refine (spec_l08Within.calls k a0 a1_0 a1_1 a1_2 _ _ l1_3 a2_0 a2_1 a2_2 true false _ ?side1 ?side2 A6.out).mono ?_); (case side1 => repeat (first | exact (Kd.C_below HR1_3.out HB.out) | (with_reducible refine Kd.C_alloc ?_ _) | (with_reducible refine Kd.C_drewN ?_ _) | (with_reducible refine Kd.C_drew ?_))); (case side2 => exact HC1_3.out); rintro e w30 ⟨rfl, hb⟩; refine ⟨_, rfl, ?_⟩; replace BK458 := bb_ BK458 hb; replace BK459 := bb_ BK459 hb; replace HB := bt_ HB hb; (try clear hb); (try clear hb2); (try clear hk); (try clear hi)))
    go_ret2
    exact ⟨by first | rfl | (simp [errW_none, errW_some] <;> rfl) | (simp [*, errW_none, errW_some] <;> rfl), by repeat (first | (with_reducible first | exact HB.out | apply below_alloc | apply pw_below_drewN | apply below_drew1 | refine below_set ?_ GE458.out | refine below_set ?_ GE459.out) | exact HB.out)⟩
  ·replace c7 := Bool.eq_false_iff.mpr c7
   subst c7
   have H1 : ((spec_l08Weight.f k a0 a1_0 a1_1 a1_2 l1_3 a2_0 a2_1 a2_2).bind fun t464 => (some (t464, 0))) = some (r1, r2) := by rw [if_neg (show ¬ (false = true) by decide)] at H; exact H
   clear H
   have H := H1
   clear H1
   replace H := Option.bind_eq_some_iff.mp H
   obtain ⟨t464, A310, H⟩ := H
   have A31 := Aside0.mk A310
   clear A310
   simp only [Option.some.injEq, Prod.mk.injEq] at H
   obtain ⟨rfl, rfl⟩ := H
   go_enter Try.func8, Try.ntmps8
   go_wp2_with (first | ((with_reducible refine gate_dst (N := 4) rfl ?_); refine bx_ 4 #[.int .i64 a1_0, .int .i64 a1_1, .int .i64 a1_2, .slice A1_3 l1_3.length c1_3] 33 ?_; intro gb458 hg w32 hbox hb; have BK458 := Aside0.mk (hbox); have GW458 := bs_ HB hg; have GE458 := bs_ HB hg; replace HB := bt_ HB hb; clear hb hbox hg) | ((with_reducible refine gate_dst (N := 5) rfl ?_); refine bx_ 5 #[.int .i64 a2_0, .int .i64 a2_1, .int .i64 a2_2] 30 ?_; intro gb459 hg w33 hbox hb; have BK459 := Aside0.mk (hbox); have GW459 := bs_ HB hg; have GE459 := bs_ HB hg; have NB458_459 := bm_ BK458 hg; have NB459_458 := bn_ BK458 hg; replace BK458 := bb_ BK458 hb; replace HB := bt_ HB hb; clear hb hbox hg; have hnb34 := NB458_459.out; have hnc34 := NB459_458.out; have hcz35_0 : w33.cell? ⟨gb458, 0, none⟩ = some (.int .i64 a1_0) := cz_ BK458 0; have hcz35_1 : w33.cell? ⟨gb458, 1, none⟩ = some (.int .i64 a1_1) := cz_ BK458 1; have hcz35_2 : w33.cell? ⟨gb458, 2, none⟩ = some (.int .i64 a1_2) := cz_ BK458 2; have hcz35_3 : w33.cell? ⟨gb458, 3, none⟩ = some (.slice A1_3 l1_3.length c1_3) := cz_ BK458 3; have hfz35_0 := fz_ BK458 0; have hfz35_1 := fz_ BK458 1; have hfz35_2 := fz_ BK458 2; have hfz35_3 := fz_ BK458 3; have hcz36_0 : w33.cell? ⟨gb459, 0, none⟩ = some (.int .i64 a2_0) := cz_ BK459 0; have hcz36_1 : w33.cell? ⟨gb459, 1, none⟩ = some (.int .i64 a2_1) := cz_ BK459 1; have hcz36_2 : w33.cell? ⟨gb459, 2, none⟩ = some (.int .i64 a2_2) := cz_ BK459 2; have hfz36_0 := fz_ BK459 0; have hfz36_1 := fz_ BK459 1; have hfz36_2 := fz_ BK459 2) | ((with_reducible refine gate_callee (f := 25) rfl ?_); refine ge_ 14 Try.func25 #[.int .i64 a0, .agg #[.int .i64 a1_0, .int .i64 a1_1, .int .i64 a1_2, .slice A1_3 l1_3.length c1_3], .agg #[.int .i64 a2_0, .int .i64 a2_1, .int .i64 a2_2]] ?_; (with_reducible refine (spec_l08Code.calls k a0 a1_0 a1_1 a1_2 _ _ l1_3 a2_0 a2_1 a2_2 t460 _ ?side1 ?side2 A4.out).mono ?_); (case side1 => repeat (first | exact (Kd.C_below HR1_3.out HB.out) | (with_reducible refine Kd.C_alloc ?_ _) | (with_reducible refine Kd.C_drewN ?_ _) | (with_reducible refine Kd.C_drew ?_))); (case side2 => exact HC1_3.out); rintro e w37 ⟨rfl, hb⟩; refine ⟨_, rfl, ?_⟩; replace BK458 := bb_ BK458 hb; replace BK459 := bb_ BK459 hb; replace HB := bt_ HB hb; (try clear hb); (try clear hb2); (try clear hk); (try clear hi); have hcz38_0 : w37.cell? ⟨gb458, 0, none⟩ = some (.int .i64 a1_0) := cz_ BK458 0; have hcz38_1 : w37.cell? ⟨gb458, 1, none⟩ = some (.int .i64 a1_1) := cz_ BK458 1; have hcz38_2 : w37.cell? ⟨gb458, 2, none⟩ = some (.int .i64 a1_2) := cz_ BK458 2; have hcz38_3 : w37.cell? ⟨gb458, 3, none⟩ = some (.slice A1_3 l1_3.length c1_3) := cz_ BK458 3; have hfz38_0 := fz_ BK458 0; have hfz38_1 := fz_ BK458 1; have hfz38_2 := fz_ BK458 2; have hfz38_3 := fz_ BK458 3; have hcz39_0 : w37.cell? ⟨gb459, 0, none⟩ = some (.int .i64 a2_0) := cz_ BK459 0; have hcz39_1 : w37.cell? ⟨gb459, 1, none⟩ = some (.int .i64 a2_1) := cz_ BK459 1; have hcz39_2 : w37.cell? ⟨gb459, 2, none⟩ = some (.int .i64 a2_2) := cz_ BK459 2; have hfz39_0 := fz_ BK459 0; have hfz39_1 := fz_ BK459 1; have hfz39_2 := fz_ BK459 2) | ((with_reducible refine gate_callee (f := 26) rfl ?_); refine ge_ 22 Try.func26 #[.int .i64 a0, .agg #[.int .i64 a1_0, .int .i64 a1_1, .int .i64 a1_2, .slice A1_3 l1_3.length c1_3], .agg #[.int .i64 a2_0, .int .i64 a2_1, .int .i64 a2_2]] ?_; (with_reducible refine (spec_l08Within.calls k a0 a1_0 a1_1 a1_2 _ _ l1_3 a2_0 a2_1 a2_2 false t462 _ ?side1 ?side2 A6.out).mono ?_); (case side1 => repeat (first | exact (Kd.C_below HR1_3.out HB.out) | (with_reducible refine Kd.C_alloc ?_ _) | (with_reducible refine Kd.C_drewN ?_ _) | (with_reducible refine Kd.C_drew ?_))); (case side2 => exact HC1_3.out); rintro e w40 ⟨rfl, hb⟩; refine ⟨_, rfl, ?_⟩; replace BK458 := bb_ BK458 hb; replace BK459 := bb_ BK459 hb; replace HB := bt_ HB hb; (try clear hb); (try clear hb2); (try clear hk); (try clear hi); have hcz41_0 : w40.cell? ⟨gb458, 0, none⟩ = some (.int .i64 a1_0) := cz_ BK458 0; have hcz41_1 : w40.cell? ⟨gb458, 1, none⟩ = some (.int .i64 a1_1) := cz_ BK458 1; have hcz41_2 : w40.cell? ⟨gb458, 2, none⟩ = some (.int .i64 a1_2) := cz_ BK458 2; have hcz41_3 : w40.cell? ⟨gb458, 3, none⟩ = some (.slice A1_3 l1_3.length c1_3) := cz_ BK458 3; have hfz41_0 := fz_ BK458 0; have hfz41_1 := fz_ BK458 1; have hfz41_2 := fz_ BK458 2; have hfz41_3 := fz_ BK458 3; have hcz42_0 : w40.cell? ⟨gb459, 0, none⟩ = some (.int .i64 a2_0) := cz_ BK459 0; have hcz42_1 : w40.cell? ⟨gb459, 1, none⟩ = some (.int .i64 a2_1) := cz_ BK459 1; have hcz42_2 : w40.cell? ⟨gb459, 2, none⟩ = some (.int .i64 a2_2) := cz_ BK459 2; have hfz42_0 := fz_ BK459 0; have hfz42_1 := fz_ BK459 1; have hfz42_2 := fz_ BK459 2) | ((with_reducible refine gate_callee (f := 27) rfl ?_); refine ge_ 33 Try.func27 #[.int .i64 a0, .agg #[.int .i64 a1_0, .int .i64 a1_1, .int .i64 a1_2, .slice A1_3 l1_3.length c1_3], .agg #[.int .i64 a2_0, .int .i64 a2_1, .int .i64 a2_2]] ?_; (with_reducible refine (spec_l08Weight.calls k a0 a1_0 a1_1 a1_2 _ _ l1_3 a2_0 a2_1 a2_2 t464 _ ?side1 ?side2 A31.out).mono ?_); (case side1 => repeat (first | exact (Kd.C_below HR1_3.out HB.out) | (with_reducible refine Kd.C_alloc ?_ _) | (with_reducible refine Kd.C_drewN ?_ _) | (with_reducible refine Kd.C_drew ?_))); (case side2 => exact HC1_3.out); rintro e w43 ⟨rfl, hb⟩; refine ⟨_, rfl, ?_⟩; replace BK458 := bb_ BK458 hb; replace BK459 := bb_ BK459 hb; replace HB := bt_ HB hb; (try clear hb); (try clear hb2); (try clear hk); (try clear hi)))
   go_ret2
   exact ⟨by first | rfl | (simp [errW_none, errW_some] <;> rfl) | (simp [*, errW_none, errW_some] <;> rfl), by repeat (first | (with_reducible first | exact HB.out | apply below_alloc | apply pw_below_drewN | apply below_drew1 | refine below_set ?_ GE458.out | refine below_set ?_ GE459.out) | exact HB.out)⟩
 ·rw [if_neg c5] at H
  have c5b0 : (t460 == 0) = false := beq_eq_false_iff_ne.mpr c5
  have c5b1 : (t460 != 0) = true := bne_iff_ne.mpr c5
  simp only [Option.some.injEq, Prod.mk.injEq] at H
  obtain ⟨rfl, rfl⟩ := H
  go_enter Try.func8, Try.ntmps8
  go_wp2_with (first | ((with_reducible refine gate_dst (N := 4) rfl ?_); refine bx_ 4 #[.int .i64 a1_0, .int .i64 a1_1, .int .i64 a1_2, .slice A1_3 l1_3.length c1_3] 33 ?_; intro gb458 hg w44 hbox hb; have BK458 := Aside0.mk (hbox); have GW458 := bs_ HB hg; have GE458 := bs_ HB hg; replace HB := bt_ HB hb; clear hb hbox hg) | ((with_reducible refine gate_dst (N := 5) rfl ?_); refine bx_ 5 #[.int .i64 a2_0, .int .i64 a2_1, .int .i64 a2_2] 30 ?_; intro gb459 hg w45 hbox hb; have BK459 := Aside0.mk (hbox); have GW459 := bs_ HB hg; have GE459 := bs_ HB hg; have NB458_459 := bm_ BK458 hg; have NB459_458 := bn_ BK458 hg; replace BK458 := bb_ BK458 hb; replace HB := bt_ HB hb; clear hb hbox hg; have hnb46 := NB458_459.out; have hnc46 := NB459_458.out; have hcz47_0 : w45.cell? ⟨gb458, 0, none⟩ = some (.int .i64 a1_0) := cz_ BK458 0; have hcz47_1 : w45.cell? ⟨gb458, 1, none⟩ = some (.int .i64 a1_1) := cz_ BK458 1; have hcz47_2 : w45.cell? ⟨gb458, 2, none⟩ = some (.int .i64 a1_2) := cz_ BK458 2; have hcz47_3 : w45.cell? ⟨gb458, 3, none⟩ = some (.slice A1_3 l1_3.length c1_3) := cz_ BK458 3; have hfz47_0 := fz_ BK458 0; have hfz47_1 := fz_ BK458 1; have hfz47_2 := fz_ BK458 2; have hfz47_3 := fz_ BK458 3; have hcz48_0 : w45.cell? ⟨gb459, 0, none⟩ = some (.int .i64 a2_0) := cz_ BK459 0; have hcz48_1 : w45.cell? ⟨gb459, 1, none⟩ = some (.int .i64 a2_1) := cz_ BK459 1; have hcz48_2 : w45.cell? ⟨gb459, 2, none⟩ = some (.int .i64 a2_2) := cz_ BK459 2; have hfz48_0 := fz_ BK459 0; have hfz48_1 := fz_ BK459 1; have hfz48_2 := fz_ BK459 2) | ((with_reducible refine gate_callee (f := 25) rfl ?_); refine ge_ 14 Try.func25 #[.int .i64 a0, .agg #[.int .i64 a1_0, .int .i64 a1_1, .int .i64 a1_2, .slice A1_3 l1_3.length c1_3], .agg #[.int .i64 a2_0, .int .i64 a2_1, .int .i64 a2_2]] ?_; (with_reducible refine (spec_l08Code.calls k a0 a1_0 a1_1 a1_2 _ _ l1_3 a2_0 a2_1 a2_2 t460 _ ?side1 ?side2 A4.out).mono ?_); (case side1 => repeat (first | exact (Kd.C_below HR1_3.out HB.out) | (with_reducible refine Kd.C_alloc ?_ _) | (with_reducible refine Kd.C_drewN ?_ _) | (with_reducible refine Kd.C_drew ?_))); (case side2 => exact HC1_3.out); rintro e w49 ⟨rfl, hb⟩; refine ⟨_, rfl, ?_⟩; replace BK458 := bb_ BK458 hb; replace BK459 := bb_ BK459 hb; replace HB := bt_ HB hb; (try clear hb); (try clear hb2); (try clear hk); (try clear hi)))
  go_ret2
  exact ⟨by first | rfl | (simp [errW_none, errW_some] <;> rfl) | (simp [*, errW_none, errW_some] <;> rfl), by repeat (first | (with_reducible first | exact HB.out | apply below_alloc | apply pw_below_drewN | apply below_drew1 | refine below_set ?_ GE458.out | refine below_set ?_ GE459.out) | exact HB.out)⟩
end Go.Proofs.Ytoiailmmgfokjaa.QC
