import Derived.Test.YtdfcoebadjhjlaaQIx5
import Derived.Test.YtdfcoebadjhjlaaQIx24
namespace Go.Proofs.Ytdfcoebadjhjlaa.QI
open Go.RowKit Go.Proofs.YtdfcoebadjhjlaaW.PrintWords Go.Proofs.YtdfcoebadjhjlaaW.PrintLast Go.Proofs.YtdfcoebadjhjlaaW.PrintMore
attribute [local go_sem] isSome_setCell max2_int min2_int max_two min_two max_three min_three max_four min_four
set_option linter.unusedVariables false
set_option linter.unusedSimpArgs false

/-! ### spec_l08Weight: function 54 -/
def spec_l08Weight.l0 : Nat → Int → Int → Int → Int → Int → Int → List (S72) → Int → Int → Int → Option (Int)
 | 0, _, _, _, _, _, _, _, _, _, _ => none
 | k + 1, x0, x7, x8, x190000, x190001, x190002, x190003, x191000, x191001, x191002 => if x8 < (x190003.length : Int) then (if 0 ≤ x8 then ((spec_l01Holds.f k x0 x191000 x191001 x191002 ((rd_T72 x190003 x8).f0.f0) ((rd_T72 x190003 x8).f0.f1) ((rd_T72 x190003 x8).f0.f2)).bind fun t192 => (if t192 = true then (spec_l08Weight.l0 k x0 (wrap64 (x7 + ((rd_T72 x190003 x8).f1))) (wrap64 (x8 + 1)) x190000 x190001 x190002 x190003 x191000 x191001 x191002) else (spec_l08Weight.l0 k x0 x7 (wrap64 (x8 + 1)) x190000 x190001 x190002 x190003 x191000 x191001 x191002))) else (none)) else (some x7)
def spec_l08Weight.f (k : Nat) (a0 a1_0 a1_1 a1_2 : Int) (l1_3 : List (S72)) (a2_0 a2_1 a2_2 : Int) : Option (Int) := spec_l08Weight.l0 k a0 0 0 a1_0 a1_1 a1_2 l1_3 a2_0 a2_1 a2_2
def spec_l08Weight.T5 : Bool × List (List Nat × List Nat) := (true, [([], []), ([], []), ([], []), ([2], [2]), ([], []), ([3, 4], [3, 4]), ([5], [5]), ([6], [6]), ([0, 1, 7], [0, 1, 7])])
def spec_l08Weight.B5 : List Nat := [0, 0, 0, 4, 0, 28, 60, 124, 255]
theorem spec_l08Weight.tab5 : rtab .any (opsOf Try.f54 5) = spec_l08Weight.T5 := by kernel_rfl
theorem spec_l08Weight.bits5 : waitsOk spec_l08Weight.T5.2 spec_l08Weight.B5 = true := by kernel_rfl
set_option maxHeartbeats 8000000 in
set_option maxRecDepth 100000 in
theorem spec_l08Weight.calls (k : Nat) (a0 a1_0 a1_1 a1_2 : Int) (A1_3 : Option Addr) (c1_3 : Nat) (l1_3 : List (S72)) (a2_0 a2_1 a2_2 r : Int) (w : World) (hr1_3 : Kd.C k72 w A1_3 l1_3.length l1_3) (hc1_3 : l1_3.length ≤ c1_3) (h : spec_l08Weight.f k a0 a1_0 a1_1 a1_2 l1_3 a2_0 a2_1 a2_2 = some r) :
  Calls Try.prog 54 #[.int .i64 a0, .agg #[.int .i64 a1_0, .int .i64 a1_1, .int .i64 a1_2, .slice A1_3 l1_3.length c1_3], .agg #[.int .i64 a2_0, .int .i64 a2_1, .int .i64 a2_2]] w fun e w' => e = .returned (.int .i64 r) ∧ Below w.heap.size w w' := by
 have hu34 := Try.underlying34
 have hu31 := Try.underlying31
 have hu72 := Try.underlying72
 have HR1_3 := Aside0.mk hr1_3
 have HC1_3 := Aside0.mk hc1_3
 clear hr1_3 hc1_3
 have HB := Aside0.mk (Below.refl w.heap.size w)
 unfold spec_l08Weight.f at h
 have H := h
 clear h
 have H' := Aside0.mk H
 clear H
 go_enter Try.func54, Try.ntmps54
 go_wp2_with (first | ((refine gd_ 4 ?_); refine by_ 4 #[.int .i64 a1_0, .int .i64 a1_1, .int .i64 a1_2, .slice A1_3 l1_3.length c1_3] 34 HB ?_; intro gb189 hg w4 BK189 hb GW189 HB_; replace HB := HB_; clear hb hg) | ((refine gd_ 5 ?_); refine by_ 5 #[.int .i64 a2_0, .int .i64 a2_1, .int .i64 a2_2] 31 HB ?_; intro gb190 hg w5 BK190 hb GW190 HB_; have NB189_190 := bm_ BK189 hg; have NB190_189 := bn_ BK189 hg; replace BK189 := bb_ BK189 hb; replace HB := HB_; clear hb hg))
 go_loopg [7, 8] k (fun kq v7 v8 w' => ∃ (x7_1 : Int) (x8_1 : Int), v7 = .int .i64 x7_1 ∧ v8 = .int .i64 x8_1 ∧ Aside0 (spec_l08Weight.l0 kq a0 x7_1 x8_1 a1_0 a1_1 a1_2 l1_3 a2_0 a2_1 a2_2 = some r) ∧ Aside0 (kq ≤ k) ∧ Aside0 (w'.heap[gb189]? = some (.cells #[.int .i64 a1_0, .int .i64 a1_1, .int .i64 a1_2, (.slice A1_3 l1_3.length c1_3)] 34 (0, 0))) ∧ Aside0 (w'.heap[gb190]? = some (.cells #[.int .i64 a2_0, .int .i64 a2_1, .int .i64 a2_2] 31 (0, 0))) ∧ Aside0 (Below w.heap.size w w'))
 case atStart => exact ⟨(0), (0), en_, en_, H', ⟨Nat.le_refl _⟩, bl_ BK189, bl_ BK190, bw_ HB⟩
 clear H'
 obtain ⟨x7_1, x8_1, rfl, rfl, HA, HK1, BK189, BK190, HB⟩ := hrel
 cases gk with
 | zero => exact absurd HA.out (by simp [spec_l08Weight.l0])
 | succ k1 =>
  have H := HA.out
  clear HA
  simp only [spec_l08Weight.l0] at H
  replace H := il_ H
  rcases H with ⟨c6b0, H⟩ | ⟨c6b0, H⟩
  ·replace H := imn_ H
   obtain ⟨c7b0, H⟩ := H
   replace H := oc_ H
   obtain ⟨t192, A8, H⟩ := H
   replace H := ib_ H
   rcases H with ⟨rfl, H⟩ | ⟨rfl, H⟩
   ·have H' := Aside0.mk H
    clear H
    have hnb10 := NB189_190.out
    have hnc10 := NB190_189.out
    obtain ⟨hcz11_0, hcz11_1, hcz11_2, hcz11_3, hfz11_0, hfz11_1, hfz11_2, hfz11_3⟩ := ch4_ BK189
    try go_wp2
    replace BK189 := bd_ BK189
    replace BK190 := bd_ BK190
    replace HB := be_ HB
    have p191 : 0 ≤ (x8_1 : Int) := od_
    have q191 : x8_1 < (l1_3.length : Int) := od_
    obtain ⟨ad191, e191, hx191_0, hx191_1, hx191_2, hx191_3⟩ := at_T72 HR1_3.out x8_1 p191 q191
    have hw191_3 := hx191_3
    have hw191_2 := hx191_2
    have hw191_1 := hx191_1
    have hw191_0 := hx191_0
    cases e191
    replace hx191_0 := clTr HB.out hx191_0
    replace hx191_1 := clTr HB.out hx191_1
    replace hx191_2 := clTr HB.out hx191_2
    replace hx191_3 := clTr HB.out hx191_3
    replace p191 := eq_true p191
    replace q191 := eq_true q191
    refine start_ (n := 9) (S := fun w' => w'.cell? ⟨gb190, 0, none⟩ = some (.int .i64 a2_0) ∧ w'.cell? ⟨gb190, 1, none⟩ = some (.int .i64 a2_1) ∧ w'.cell? ⟨gb190, 2, none⟩ = some (.int .i64 a2_2) ∧ w'.cell? ⟨gb189, 0, none⟩ = some (.int .i64 a1_0) ∧ w'.cell? ⟨gb189, 1, none⟩ = some (.int .i64 a1_1) ∧ w'.cell? ⟨gb189, 2, none⟩ = some (.int .i64 a1_2) ∧ w'.cell? ⟨gb189, 3, none⟩ = some (.slice (some ad191) l1_3.length c1_3) ∧ w'.cell? (ad191.add ((x8_1).toNat * 4)) = some (.int .i64 ((rd_T72 l1_3 x8_1).f0.f0)) ∧ w'.cell? ⟨(ad191.add ((x8_1).toNat * 4)).block, (ad191.add ((x8_1).toNat * 4)).off + 1, none⟩ = some (.int .i64 ((rd_T72 l1_3 x8_1).f0.f1)) ∧ w'.cell? ⟨(ad191.add ((x8_1).toNat * 4)).block, (ad191.add ((x8_1).toNat * 4)).off + 2, none⟩ = some (.int .i64 ((rd_T72 l1_3 x8_1).f0.f2)) ∧ w'.cell? ⟨(ad191.add ((x8_1).toNat * 4)).block, (ad191.add ((x8_1).toNat * 4)).off + 3, none⟩ = some (.int .i64 ((rd_T72 l1_3 x8_1).f1))) (ds := []) (bv_ 9 0) (by kernel_rfl) rfl rfl ⟨cz_ BK190 0, cz_ BK190 1, cz_ BK190 2, cz_ BK189 0, cz_ BK189 1, cz_ BK189 2, cz_ BK189 3, (clTr HB.out hw191_0 :), (clTr HB.out hw191_1 :), (clTr HB.out hw191_2 :), (clTr HB.out hw191_3 :)⟩ (fun hHeld => ?_); refine with_tabW spec_l08Weight.tab5 spec_l08Weight.bits5 (fun HT_ HW_ => ?_)
    generalize wr.drew = w12 at BK189 BK190 HB hx191_0 hx191_1 hx191_2 hx191_3 hHeld ⊢
    refine px_ HT_ 0 16 1 ?_
    refine px_ HT_ 2 18 5 ?_
    refine px_ HT_ 4 20 21 ?_
    refine ta_ HT_ HW_ 1 (some 17) (bv_ 9 23) hHeld ?_ (hy := by rintro w' ⟨s0, s1, s2, s3, s4, s5, s6, s7, s8, s9, s10⟩; go_simp; with_reducible rfl)
    refine ta_ HT_ HW_ 3 (some 19) (bv_ 9 31) hHeld ?_ (hy := by rintro w' ⟨s0, s1, s2, s3, s4, s5, s6, s7, s8, s9, s10⟩; go_simp; with_reducible rfl)
    refine px_ HT_ 5 21 63 ?_
    refine px_ HT_ 6 22 127 ?_
    refine ta_ HT_ HW_ 7 (some 23) (bv_ 9 255) hHeld ?_ (hy := by rintro w' ⟨s0, s1, s2, s3, s4, s5, s6, s7, s8, s9, s10⟩; go_simp; with_reducible rfl)
    refine on_ HT_ 8 (some 24) (bv_ 9 511) (fun K hK => ?_)
    refine gs_ Try.func41 #[.int .i64 a0, .agg #[.int .i64 a2_0, .int .i64 a2_1, .int .i64 a2_2], .agg #[.int .i64 ((rd_T72 l1_3 x8_1).f0.f0), .int .i64 ((rd_T72 l1_3 x8_1).f0.f1), .int .i64 ((rd_T72 l1_3 x8_1).f0.f2)]] ?_
    with_reducible refine (spec_l01Holds.calls k1 a0 a2_0 a2_1 a2_2 ((rd_T72 l1_3 x8_1).f0.f0) ((rd_T72 l1_3 x8_1).f0.f1) ((rd_T72 l1_3 x8_1).f0.f2) true _ A8.out).mono ?_
    rintro e w13 ⟨rfl, hb⟩
    refine ⟨_, rfl, ?_⟩
    replace BK189 := bb_ BK189 hb
    replace BK190 := bb_ BK190 hb
    replace HB := bt_ HB hb
    try clear hb
    refine hK.out _ _ ⟨cz_ BK190 0, cz_ BK190 1, cz_ BK190 2, cz_ BK189 0, cz_ BK189 1, cz_ BK189 2, cz_ BK189 3, (clTr HB.out hw191_0 :), (clTr HB.out hw191_1 :), (clTr HB.out hw191_2 :), (clTr HB.out hw191_3 :)⟩ (fun hHeld => ?_)
    clear hK K
    refine nm_ (some 24) ?_
    refine done_ (done_of HT_.out (by kernel_rfl)) ?_
    obtain ⟨hcz14_0, hcz14_1, hcz14_2, hcz14_3, hfz14_0, hfz14_1, hfz14_2, hfz14_3⟩ := ch4_ BK189
    have p193 : 0 ≤ (x8_1 : Int) := od_
    have q193 : x8_1 < (l1_3.length : Int) := od_
    obtain ⟨ad193, e193, hx193_0, hx193_1, hx193_2, hx193_3⟩ := at_T72 HR1_3.out x8_1 p193 q193
    obtain rfl : ad191 = ad193 := (by injection e193)
    replace hx193_0 := clTr HB.out hx193_0
    replace hx193_1 := clTr HB.out hx193_1
    replace hx193_2 := clTr HB.out hx193_2
    replace hx193_3 := clTr HB.out hx193_3
    replace p193 := eq_true p193
    replace q193 := eq_true q193
    try go_wp2
    go_roundg k1
    case measure => have := HK1.out; omega
    case rel => exact ⟨(wrap64 (x7_1 + ((rd_T72 l1_3 x8_1).f1))), (wrap64 (x8_1 + 1)), en_, en_, H', ⟨by have := HK1.out; omega⟩, bl_ BK189, bl_ BK190, bw_ HB⟩
   have H' := Aside0.mk H
   clear H
   have hnb15 := NB189_190.out
   have hnc15 := NB190_189.out
   obtain ⟨hcz16_0, hcz16_1, hcz16_2, hcz16_3, hfz16_0, hfz16_1, hfz16_2, hfz16_3⟩ := ch4_ BK189
   try go_wp2
   replace BK189 := bd_ BK189
   replace BK190 := bd_ BK190
   replace HB := be_ HB
   have p191 : 0 ≤ (x8_1 : Int) := od_
   have q191 : x8_1 < (l1_3.length : Int) := od_
   obtain ⟨ad191, e191, hx191_0, hx191_1, hx191_2, hx191_3⟩ := at_T72 HR1_3.out x8_1 p191 q191
   have hw191_3 := hx191_3
   have hw191_2 := hx191_2
   have hw191_1 := hx191_1
   have hw191_0 := hx191_0
   cases e191
   replace hx191_0 := clTr HB.out hx191_0
   replace hx191_1 := clTr HB.out hx191_1
   replace hx191_2 := clTr HB.out hx191_2
   replace hx191_3 := clTr HB.out hx191_3
   replace p191 := eq_true p191
   replace q191 := eq_true q191
   refine start_ (n := 9) (S := fun w' => w'.cell? ⟨gb190, 0, none⟩ = some (.int .i64 a2_0) ∧ w'.cell? ⟨gb190, 1, none⟩ = some (.int .i64 a2_1) ∧ w'.cell? ⟨gb190, 2, none⟩ = some (.int .i64 a2_2) ∧ w'.cell? ⟨gb189, 0, none⟩ = some (.int .i64 a1_0) ∧ w'.cell? ⟨gb189, 1, none⟩ = some (.int .i64 a1_1) ∧ w'.cell? ⟨gb189, 2, none⟩ = some (.int .i64 a1_2) ∧ w'.cell? ⟨gb189, 3, none⟩ = some (.slice (some ad191) l1_3.length c1_3) ∧ w'.cell? (ad191.add ((x8_1).toNat * 4)) = some (.int .i64 ((rd_T72 l1_3 x8_1).f0.f0)) ∧ w'.cell? ⟨(ad191.add ((x8_1).toNat * 4)).block, (ad191.add ((x8_1).toNat * 4)).off + 1, none⟩ = some (.int .i64 ((rd_T72 l1_3 x8_1).f0.f1)) ∧ w'.cell? ⟨(ad191.add ((x8_1).toNat * 4)).block, (ad191.add ((x8_1).toNat * 4)).off + 2, none⟩ = some (.int .i64 ((rd_T72 l1_3 x8_1).f0.f2)) ∧ w'.cell? ⟨(ad191.add ((x8_1).toNat * 4)).block, (ad191.add ((x8_1).toNat * 4)).off + 3, none⟩ = some (.int .i64 ((rd_T72 l1_3 x8_1).f1))) (ds := []) (bv_ 9 0) (by kernel_rfl) rfl rfl ⟨cz_ BK190 0, cz_ BK190 1, cz_ BK190 2, cz_ BK189 0, cz_ BK189 1, cz_ BK189 2, cz_ BK189 3, (clTr HB.out hw191_0 :), (clTr HB.out hw191_1 :), (clTr HB.out hw191_2 :), (clTr HB.out hw191_3 :)⟩ (fun hHeld => ?_); refine with_tabW spec_l08Weight.tab5 spec_l08Weight.bits5 (fun HT_ HW_ => ?_)
   generalize wr.drew = w17 at BK189 BK190 HB hx191_0 hx191_1 hx191_2 hx191_3 hHeld ⊢
   refine px_ HT_ 0 16 1 ?_
   refine px_ HT_ 2 18 5 ?_
   refine px_ HT_ 4 20 21 ?_
   refine ta_ HT_ HW_ 1 (some 17) (bv_ 9 23) hHeld ?_ (hy := by rintro w' ⟨s0, s1, s2, s3, s4, s5, s6, s7, s8, s9, s10⟩; go_simp; with_reducible rfl)
   refine ta_ HT_ HW_ 3 (some 19) (bv_ 9 31) hHeld ?_ (hy := by rintro w' ⟨s0, s1, s2, s3, s4, s5, s6, s7, s8, s9, s10⟩; go_simp; with_reducible rfl)
   refine px_ HT_ 5 21 63 ?_
   refine px_ HT_ 6 22 127 ?_
   refine ta_ HT_ HW_ 7 (some 23) (bv_ 9 255) hHeld ?_ (hy := by rintro w' ⟨s0, s1, s2, s3, s4, s5, s6, s7, s8, s9, s10⟩; go_simp; with_reducible rfl)
   refine on_ HT_ 8 (some 24) (bv_ 9 511) (fun K hK => ?_)
   refine gs_ Try.func41 #[.int .i64 a0, .agg #[.int .i64 a2_0, .int .i64 a2_1, .int .i64 a2_2], .agg #[.int .i64 ((rd_T72 l1_3 x8_1).f0.f0), .int .i64 ((rd_T72 l1_3 x8_1).f0.f1), .int .i64 ((rd_T72 l1_3 x8_1).f0.f2)]] ?_
   with_reducible refine (spec_l01Holds.calls k1 a0 a2_0 a2_1 a2_2 ((rd_T72 l1_3 x8_1).f0.f0) ((rd_T72 l1_3 x8_1).f0.f1) ((rd_T72 l1_3 x8_1).f0.f2) false _ A8.out).mono ?_
   rintro e w18 ⟨rfl, hb⟩
   refine ⟨_, rfl, ?_⟩
   replace BK189 := bb_ BK189 hb
   replace BK190 := bb_ BK190 hb
   replace HB := bt_ HB hb
   try clear hb
   refine hK.out _ _ ⟨cz_ BK190 0, cz_ BK190 1, cz_ BK190 2, cz_ BK189 0, cz_ BK189 1, cz_ BK189 2, cz_ BK189 3, (clTr HB.out hw191_0 :), (clTr HB.out hw191_1 :), (clTr HB.out hw191_2 :), (clTr HB.out hw191_3 :)⟩ (fun hHeld => ?_)
   clear hK K
   refine nm_ (some 24) ?_
   refine done_ (done_of HT_.out (by kernel_rfl)) ?_
   try go_wp2
   go_roundg k1
   case measure => have := HK1.out; omega
   case rel => exact ⟨(x7_1), (wrap64 (x8_1 + 1)), en_, en_, H', ⟨by have := HK1.out; omega⟩, bl_ BK189, bl_ BK190, bw_ HB⟩
  obtain rfl := si_ H
  have hnb19 := NB189_190.out
  have hnc19 := NB190_189.out
  obtain ⟨hcz20_0, hcz20_1, hcz20_2, hcz20_3, hfz20_0, hfz20_1, hfz20_2, hfz20_3⟩ := ch4_ BK189
  go_wp2
  go_ret
  exact ⟨es_, (bw_ HB).out⟩
end Go.Proofs.Ytdfcoebadjhjlaa.QI
