import Derived.Test.YtdfcoebadjhjlaaQFx9
import Derived.Test.YtdfcoebadjhjlaaQFx12
namespace Go.Proofs.Ytdfcoebadjhjlaa.QF
open Go.RowKit Go.Proofs.YtdfcoebadjhjlaaW.PrintWords Go.Proofs.YtdfcoebadjhjlaaW.PrintLast Go.Proofs.YtdfcoebadjhjlaaW.PrintMore
attribute [local go_sem] isSome_setCell max2_int min2_int max_two min_two max_three min_three max_four min_four
set_option linter.unusedVariables false
set_option linter.unusedSimpArgs false

/-! ### spec_l08Weight: function 54 -/
def spec_l08Weight.l0 : Nat → Int → Int → Int → Int → Int → Int → List (S72) → Int → Int → Int → Option (Int)
 | 0, _, _, _, _, _, _, _, _, _, _ => none
 | k + 1, x0, x7, x8, x154000, x154001, x154002, x154003, x155000, x155001, x155002 => if x8 < (x154003.length : Int) then (if 0 ≤ x8 then ((spec_l01Holds.f k x0 x155000 x155001 x155002 ((rd_T72 x154003 x8).f0.f0) ((rd_T72 x154003 x8).f0.f1) ((rd_T72 x154003 x8).f0.f2)).bind fun t156 => (if t156 = true then (spec_l08Weight.l0 k x0 (wrap64 (x7 + ((rd_T72 x154003 x8).f1))) (wrap64 (x8 + 1)) x154000 x154001 x154002 x154003 x155000 x155001 x155002) else (spec_l08Weight.l0 k x0 x7 (wrap64 (x8 + 1)) x154000 x154001 x154002 x154003 x155000 x155001 x155002))) else (none)) else (some x7)
def spec_l08Weight.f (k : Nat) (a0 a1_0 a1_1 a1_2 : Int) (l1_3 : List (S72)) (a2_0 a2_1 a2_2 : Int) : Option (Int) := spec_l08Weight.l0 k a0 0 0 a1_0 a1_1 a1_2 l1_3 a2_0 a2_1 a2_2
def spec_l08Weight.T5 : Bool × List (List Nat × List Nat) := (true, [([], []), ([], []), ([], []), ([2], [2]), ([], []), ([3, 4], [3, 4]), ([5], [5]), ([6], [6]), ([0, 1, 7], [0, 1, 7])])
def spec_l08Weight.B5 : List Nat := [0, 0, 0, 4, 0, 28, 60, 124, 255]
theorem spec_l08Weight.tab5 : rtab .any (opsOf Try.f54 5) = spec_l08Weight.T5 := by kernel_rfl
theorem spec_l08Weight.bits5 : waitsOk spec_l08Weight.T5.2 spec_l08Weight.B5 = true := by kernel_rfl
set_option maxHeartbeats 8000000 in
set_option maxRecDepth 100000 in
theorem spec_l08Weight.calls (k : Nat) (a0 a1_0 a1_1 a1_2 : Int) (A1_3 : Option Addr) (c1_3 : Nat) (l1_3 : List (S72)) (a2_0 a2_1 a2_2 r : Int) (w : World) (hr1_3 : Kd.C k72 w A1_3 l1_3.length l1_3) (hc1_3 : l1_3.length ≤ c1_3) (h : spec_l08Weight.f k a0 a1_0 a1_1 a1_2 l1_3 a2_0 a2_1 a2_2 = some r) :
  Calls Try.prog 54 #[.int .i64 a0, .agg #[.int .i64 a1_0, .int .i64 a1_1, .int .i64 a1_2, .slice A1_3 l1_3.length c1_3], .agg #[.int .i64 a2_0, .int .i64 a2_1, .int .i64 a2_2]] w fun e w' => e = .returned (.int .i64 r) ∧ Below w.heap.size w w' := by
 have hu34 := Try.underlying34
 have hu31 := Try.underlying31
 have hu72 := Try.underlying72
 have HR1_3 := Aside0.mk hr1_3
 have HC1_3 := Aside0.mk hc1_3
 clear hr1_3 hc1_3
 have HB := Aside0.mk (Below.refl w.heap.size w)
 unfold spec_l08Weight.f at h
 have H := h
 clear h
 have H' := Aside0.mk H
 clear H
 go_enter Try.func54, Try.ntmps54
 go_wp2_with (first | ((refine gd_ 4 ?_); refine by_ 4 #[.int .i64 a1_0, .int .i64 a1_1, .int .i64 a1_2, .slice A1_3 l1_3.length c1_3] 34 HB ?_; intro gb153 hg w4 BK153 hb GW153 HB_; replace HB := HB_; clear hb hg) | ((refine gd_ 5 ?_); refine by_ 5 #[.int .i64 a2_0, .int .i64 a2_1, .int .i64 a2_2] 31 HB ?_; intro gb154 hg w5 BK154 hb GW154 HB_; have NB153_154 := bm_ BK153 hg; have NB154_153 := bn_ BK153 hg; replace BK153 := bb_ BK153 hb; replace HB := HB_; clear hb hg))
 go_loopg [7, 8] k (fun kq v7 v8 w' => ∃ (x7_1 : Int) (x8_1 : Int), v7 = .int .i64 x7_1 ∧ v8 = .int .i64 x8_1 ∧ Aside0 (spec_l08Weight.l0 kq a0 x7_1 x8_1 a1_0 a1_1 a1_2 l1_3 a2_0 a2_1 a2_2 = some r) ∧ Aside0 (kq ≤ k) ∧ Aside0 (w'.heap[gb153]? = some (.cells #[.int .i64 a1_0, .int .i64 a1_1, .int .i64 a1_2, (.slice A1_3 l1_3.length c1_3)] 34 (0, 0))) ∧ Aside0 (w'.heap[gb154]? = some (.cells #[.int .i64 a2_0, .int .i64 a2_1, .int .i64 a2_2] 31 (0, 0))) ∧ Aside0 (Below w.heap.size w w'))
 case atStart => exact ⟨(0), (0), en_, en_, H', ⟨Nat.le_refl _⟩, bl_ BK153, bl_ BK154, bw_ HB⟩
 clear H'
 obtain ⟨x7_1, x8_1, rfl, rfl, HA, HK1, BK153, BK154, HB⟩ := hrel
 cases gk with
 | zero => exact absurd HA.out (by simp [spec_l08Weight.l0])
 | succ k1 =>
  have H := HA.out
  clear HA
  simp only [spec_l08Weight.l0] at H
  replace H := il_ H
  rcases H with ⟨c6b0, H⟩ | ⟨c6b0, H⟩
  ·replace H := imn_ H
   obtain ⟨c7b0, H⟩ := H
   replace H := oc_ H
   obtain ⟨t156, A8, H⟩ := H
   replace H := ib_ H
   rcases H with ⟨rfl, H⟩ | ⟨rfl, H⟩
   ·have H' := Aside0.mk H
    clear H
    have hnb10 := NB153_154.out
    have hnc10 := NB154_153.out
    obtain ⟨hcz11_0, hcz11_1, hcz11_2, hcz11_3, hfz11_0, hfz11_1, hfz11_2, hfz11_3⟩ := ch4_ BK153
    try go_wp2
    replace BK153 := bd_ BK153
    replace BK154 := bd_ BK154
    replace HB := be_ HB
    have p155 : 0 ≤ (x8_1 : Int) := od_
    have q155 : x8_1 < (l1_3.length : Int) := od_
    obtain ⟨ad155, e155, hx155_0, hx155_1, hx155_2, hx155_3⟩ := at_T72 HR1_3.out x8_1 p155 q155
    have hw155_3 := hx155_3
    have hw155_2 := hx155_2
    have hw155_1 := hx155_1
    have hw155_0 := hx155_0
    cases e155
    replace hx155_0 := clTr HB.out hx155_0
    replace hx155_1 := clTr HB.out hx155_1
    replace hx155_2 := clTr HB.out hx155_2
    replace hx155_3 := clTr HB.out hx155_3
    replace p155 := eq_true p155
    replace q155 := eq_true q155
    refine start_ (n := 9) (S := fun w' => w'.cell? ⟨gb154, 0, none⟩ = some (.int .i64 a2_0) ∧ w'.cell? ⟨gb154, 1, none⟩ = some (.int .i64 a2_1) ∧ w'.cell? ⟨gb154, 2, none⟩ = some (.int .i64 a2_2) ∧ w'.cell? ⟨gb153, 0, none⟩ = some (.int .i64 a1_0) ∧ w'.cell? ⟨gb153, 1, none⟩ = some (.int .i64 a1_1) ∧ w'.cell? ⟨gb153, 2, none⟩ = some (.int .i64 a1_2) ∧ w'.cell? ⟨gb153, 3, none⟩ = some (.slice (some ad155) l1_3.length c1_3) ∧ w'.cell? (ad155.add ((x8_1).toNat * 4)) = some (.int .i64 ((rd_T72 l1_3 x8_1).f0.f0)) ∧ w'.cell? ⟨(ad155.add ((x8_1).toNat * 4)).block, (ad155.add ((x8_1).toNat * 4)).off + 1, none⟩ = some (.int .i64 ((rd_T72 l1_3 x8_1).f0.f1)) ∧ w'.cell? ⟨(ad155.add ((x8_1).toNat * 4)).block, (ad155.add ((x8_1).toNat * 4)).off + 2, none⟩ = some (.int .i64 ((rd_T72 l1_3 x8_1).f0.f2)) ∧ w'.cell? ⟨(ad155.add ((x8_1).toNat * 4)).block, (ad155.add ((x8_1).toNat * 4)).off + 3, none⟩ = some (.int .i64 ((rd_T72 l1_3 x8_1).f1))) (ds := []) (bv_ 9 0) (by kernel_rfl) rfl rfl ⟨cz_ BK154 0, cz_ BK154 1, cz_ BK154 2, cz_ BK153 0, cz_ BK153 1, cz_ BK153 2, cz_ BK153 3, (clTr HB.out hw155_0 :), (clTr HB.out hw155_1 :), (clTr HB.out hw155_2 :), (clTr HB.out hw155_3 :)⟩ (fun hHeld => ?_); refine with_tabW spec_l08Weight.tab5 spec_l08Weight.bits5 (fun HT_ HW_ => ?_)
    generalize wr.drew = w12 at BK153 BK154 HB hx155_0 hx155_1 hx155_2 hx155_3 hHeld ⊢
    refine px_ HT_ 0 16 1 ?_
    refine px_ HT_ 2 18 5 ?_
    refine px_ HT_ 4 20 21 ?_
    refine ta_ HT_ HW_ 1 (some 17) (bv_ 9 23) hHeld ?_ (hy := by rintro w' ⟨s0, s1, s2, s3, s4, s5, s6, s7, s8, s9, s10⟩; go_simp; with_reducible rfl)
    refine ta_ HT_ HW_ 3 (some 19) (bv_ 9 31) hHeld ?_ (hy := by rintro w' ⟨s0, s1, s2, s3, s4, s5, s6, s7, s8, s9, s10⟩; go_simp; with_reducible rfl)
    refine px_ HT_ 5 21 63 ?_
    refine px_ HT_ 6 22 127 ?_
    refine ta_ HT_ HW_ 7 (some 23) (bv_ 9 255) hHeld ?_ (hy := by rintro w' ⟨s0, s1, s2, s3, s4, s5, s6, s7, s8, s9, s10⟩; go_simp; with_reducible rfl)
    refine on_ HT_ 8 (some 24) (bv_ 9 511) (fun K hK => ?_)
    refine gs_ Try.func41 #[.int .i64 a0, .agg #[.int .i64 a2_0, .int .i64 a2_1, .int .i64 a2_2], .agg #[.int .i64 ((rd_T72 l1_3 x8_1).f0.f0), .int .i64 ((rd_T72 l1_3 x8_1).f0.f1), .int .i64 ((rd_T72 l1_3 x8_1).f0.f2)]] ?_
    with_reducible refine (spec_l01Holds.calls k1 a0 a2_0 a2_1 a2_2 ((rd_T72 l1_3 x8_1).f0.f0) ((rd_T72 l1_3 x8_1).f0.f1) ((rd_T72 l1_3 x8_1).f0.f2) true _ A8.out).mono ?_
    rintro e w13 ⟨rfl, hb⟩
    refine ⟨_, rfl, ?_⟩
    replace BK153 := bb_ BK153 hb
    replace BK154 := bb_ BK154 hb
    replace HB := bt_ HB hb
    try clear hb
    refine hK.out _ _ ⟨cz_ BK154 0, cz_ BK154 1, cz_ BK154 2, cz_ BK153 0, cz_ BK153 1, cz_ BK153 2, cz_ BK153 3, (clTr HB.out hw155_0 :), (clTr HB.out hw155_1 :), (clTr HB.out hw155_2 :), (clTr HB.out hw155_3 :)⟩ (fun hHeld => ?_)
    clear hK K
    refine nm_ (some 24) ?_
    refine done_ (done_of HT_.out (by kernel_rfl)) ?_
    obtain ⟨hcz14_0, hcz14_1, hcz14_2, hcz14_3, hfz14_0, hfz14_1, hfz14_2, hfz14_3⟩ := ch4_ BK153
    have p157 : 0 ≤ (x8_1 : Int) := od_
    have q157 : x8_1 < (l1_3.length : Int) := od_
    obtain ⟨ad157, e157, hx157_0, hx157_1, hx157_2, hx157_3⟩ := at_T72 HR1_3.out x8_1 p157 q157
    obtain rfl : ad155 = ad157 := (by injection e157)
    replace hx157_0 := clTr HB.out hx157_0
    replace hx157_1 := clTr HB.out hx157_1
    replace hx157_2 := clTr HB.out hx157_2
    replace hx157_3 := clTr HB.out hx157_3
    replace p157 := eq_true p157
    replace q157 := eq_true q157
    try go_wp2
    go_roundg k1
    case measure => have := HK1.out; omega
    case rel => exact ⟨(wrap64 (x7_1 + ((rd_T72 l1_3 x8_1).f1))), (wrap64 (x8_1 + 1)), en_, en_, H', ⟨by have := HK1.out; omega⟩, bl_ BK153, bl_ BK154, bw_ HB⟩
   have H' := Aside0.mk H
   clear H
   have hnb15 := NB153_154.out
   have hnc15 := NB154_153.out
   obtain ⟨hcz16_0, hcz16_1, hcz16_2, hcz16_3, hfz16_0, hfz16_1, hfz16_2, hfz16_3⟩ := ch4_ BK153
   try go_wp2
   replace BK153 := bd_ BK153
   replace BK154 := bd_ BK154
   replace HB := be_ HB
   have p155 : 0 ≤ (x8_1 : Int) := od_
   have q155 : x8_1 < (l1_3.length : Int) := od_
   obtain ⟨ad155, e155, hx155_0, hx155_1, hx155_2, hx155_3⟩ := at_T72 HR1_3.out x8_1 p155 q155
   have hw155_3 := hx155_3
   have hw155_2 := hx155_2
   have hw155_1 := hx155_1
   have hw155_0 := hx155_0
   cases e155
   replace hx155_0 := clTr HB.out hx155_0
   replace hx155_1 := clTr HB.out hx155_1
   replace hx155_2 := clTr HB.out hx155_2
   replace hx155_3 := clTr HB.out hx155_3
   replace p155 := eq_true p155
   replace q155 := eq_true q155
   refine start_ (n := 9) (S := fun w' => w'.cell? ⟨gb154, 0, none⟩ = some (.int .i64 a2_0) ∧ w'.cell? ⟨gb154, 1, none⟩ = some (.int .i64 a2_1) ∧ w'.cell? ⟨gb154, 2, none⟩ = some (.int .i64 a2_2) ∧ w'.cell? ⟨gb153, 0, none⟩ = some (.int .i64 a1_0) ∧ w'.cell? ⟨gb153, 1, none⟩ = some (.int .i64 a1_1) ∧ w'.cell? ⟨gb153, 2, none⟩ = some (.int .i64 a1_2) ∧ w'.cell? ⟨gb153, 3, none⟩ = some (.slice (some ad155) l1_3.length c1_3) ∧ w'.cell? (ad155.add ((x8_1).toNat * 4)) = some (.int .i64 ((rd_T72 l1_3 x8_1).f0.f0)) ∧ w'.cell? ⟨(ad155.add ((x8_1).toNat * 4)).block, (ad155.add ((x8_1).toNat * 4)).off + 1, none⟩ = some (.int .i64 ((rd_T72 l1_3 x8_1).f0.f1)) ∧ w'.cell? ⟨(ad155.add ((x8_1).toNat * 4)).block, (ad155.add ((x8_1).toNat * 4)).off + 2, none⟩ = some (.int .i64 ((rd_T72 l1_3 x8_1).f0.f2)) ∧ w'.cell? ⟨(ad155.add ((x8_1).toNat * 4)).block, (ad155.add ((x8_1).toNat * 4)).off + 3, none⟩ = some (.int .i64 ((rd_T72 l1_3 x8_1).f1))) (ds := []) (bv_ 9 0) (by kernel_rfl) rfl rfl ⟨cz_ BK154 0, cz_ BK154 1, cz_ BK154 2, cz_ BK153 0, cz_ BK153 1, cz_ BK153 2, cz_ BK153 3, (clTr HB.out hw155_0 :), (clTr HB.out hw155_1 :), (clTr HB.out hw155_2 :), (clTr HB.out hw155_3 :)⟩ (fun hHeld => ?_); refine with_tabW spec_l08Weight.tab5 spec_l08Weight.bits5 (fun HT_ HW_ => ?_)
   generalize wr.drew = w17 at BK153 BK154 HB hx155_0 hx155_1 hx155_2 hx155_3 hHeld ⊢
   refine px_ HT_ 0 16 1 ?_
   refine px_ HT_ 2 18 5 ?_
   refine px_ HT_ 4 20 21 ?_
   refine ta_ HT_ HW_ 1 (some 17) (bv_ 9 23) hHeld ?_ (hy := by rintro w' ⟨s0, s1, s2, s3, s4, s5, s6, s7, s8, s9, s10⟩; go_simp; with_reducible rfl)
   refine ta_ HT_ HW_ 3 (some 19) (bv_ 9 31) hHeld ?_ (hy := by rintro w' ⟨s0, s1, s2, s3, s4, s5, s6, s7, s8, s9, s10⟩; go_simp; with_reducible rfl)
   refine px_ HT_ 5 21 63 ?_
   refine px_ HT_ 6 22 127 ?_
   refine ta_ HT_ HW_ 7 (some 23) (bv_ 9 255) hHeld ?_ (hy := by rintro w' ⟨s0, s1, s2, s3, s4, s5, s6, s7, s8, s9, s10⟩; go_simp; with_reducible rfl)
   refine on_ HT_ 8 (some 24) (bv_ 9 511) (fun K hK => ?_)
   refine gs_ Try.func41 #[.int .i64 a0, .agg #[.int .i64 a2_0, .int .i64 a2_1, .int .i64 a2_2], .agg #[.int .i64 ((rd_T72 l1_3 x8_1).f0.f0), .int .i64 ((rd_T72 l1_3 x8_1).f0.f1), .int .i64 ((rd_T72 l1_3 x8_1).f0.f2)]] ?_
   with_reducible refine (spec_l01Holds.calls k1 a0 a2_0 a2_1 a2_2 ((rd_T72 l1_3 x8_1).f0.f0) ((rd_T72 l1_3 x8_1).f0.f1) ((rd_T72 l1_3 x8_1).f0.f2) false _ A8.out).mono ?_
   rintro e w18 ⟨rfl, hb⟩
   refine ⟨_, rfl, ?_⟩
   replace BK153 := bb_ BK153 hb
   replace BK154 := bb_ BK154 hb
   replace HB := bt_ HB hb
   try clear hb
   refine hK.out _ _ ⟨cz_ BK154 0, cz_ BK154 1, cz_ BK154 2, cz_ BK153 0, cz_ BK153 1, cz_ BK153 2, cz_ BK153 3, (clTr HB.out hw155_0 :), (clTr HB.out hw155_1 :), (clTr HB.out hw155_2 :), (clTr HB.out hw155_3 :)⟩ (fun hHeld => ?_)
   clear hK K
   refine nm_ (some 24) ?_
   refine done_ (done_of HT_.out (by kernel_rfl)) ?_
   try go_wp2
   go_roundg k1
   case measure => have := HK1.out; omega
   case rel => exact ⟨(x7_1), (wrap64 (x8_1 + 1)), en_, en_, H', ⟨by have := HK1.out; omega⟩, bl_ BK153, bl_ BK154, bw_ HB⟩
  obtain rfl := si_ H
  have hnb19 := NB153_154.out
  have hnc19 := NB154_153.out
  obtain ⟨hcz20_0, hcz20_1, hcz20_2, hcz20_3, hfz20_0, hfz20_1, hfz20_2, hfz20_3⟩ := ch4_ BK153
  go_wp2
  go_ret
  exact ⟨es_, (bw_ HB).out⟩
end Go.Proofs.Ytdfcoebadjhjlaa.QF
