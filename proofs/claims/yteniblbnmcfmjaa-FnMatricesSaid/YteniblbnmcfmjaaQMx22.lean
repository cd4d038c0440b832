import Derived.Test.YteniblbnmcfmjaaQMx6
import Derived.Test.YteniblbnmcfmjaaQMx21
namespace Go.Proofs.Yteniblbnmcfmjaa.QM
open Go.RowKit Go.Proofs.YteniblbnmcfmjaaW.PrintWords Go.Proofs.YteniblbnmcfmjaaW.PrintLast Go.Proofs.YteniblbnmcfmjaaW.PrintMore
attribute [local go_sem] isSome_setCell max2_int min2_int max_two min_two max_three min_three max_four min_four
set_option linter.unusedVariables false
set_option linter.unusedSimpArgs false

/-! ### spec_l04Times: function 28 -/
mutual
def spec_l04Times.l0 : Nat → Int → Int → Int → Int → Int → Int → Int → Int → Int → Int → Int → Int → Int → Option (Int × Int × Int × Int × Bool)
 | 0, _, _, _, _, _, _, _, _, _, _, _, _, _ => none
 | k + 1, x7, x247000, x247001, x247002, x247003, x248000, x248001, x248002, x248003, x250000, x250001, x250002, x250003 => if x7 < 2 then (spec_l04Times.l1 k x7 0 x247000 x247001 x247002 x247003 x248000 x248001 x248002 x248003 x250000 x250001 x250002 x250003) else ((spec_l04Reduce.f k x250000 x250001 x250002 x250003).bind fun bt250 => (some (bt250.1, bt250.2.1, bt250.2.2.1, bt250.2.2.2.1, bt250.2.2.2.2)))
def spec_l04Times.l1 : Nat → Int → Int → Int → Int → Int → Int → Int → Int → Int → Int → Int → Int → Int → Int → Option (Int × Int × Int × Int × Bool)
 | 0, _, _, _, _, _, _, _, _, _, _, _, _, _, _ => none
 | k + 1, x7, x8, x247000, x247001, x247002, x247003, x248000, x248001, x248002, x248003, x250000, x250001, x250002, x250003 => if x8 < 2 then (if x7 = 0 then (if x8 = 0 then (spec_l04Times.l1 k x7 (wrap64 (x8 + 1)) x247000 x247001 x247002 x247003 x248000 x248001 x248002 x248003 (wrap64 ((wrap64 (x247000 * x248000)) + (wrap64 (x247001 * x248002)))) x250001 x250002 x250003) else (if x8 = 1 then (spec_l04Times.l1 k x7 (wrap64 (x8 + 1)) x247000 x247001 x247002 x247003 x248000 x248001 x248002 x248003 x250000 (wrap64 ((wrap64 (x247000 * x248001)) + (wrap64 (x247001 * x248003)))) x250002 x250003) else (none))) else (if x7 = 1 then (if x8 = 0 then (spec_l04Times.l1 k x7 (wrap64 (x8 + 1)) x247000 x247001 x247002 x247003 x248000 x248001 x248002 x248003 x250000 x250001 (wrap64 ((wrap64 (x247002 * x248000)) + (wrap64 (x247003 * x248002)))) x250003) else (if x8 = 1 then (spec_l04Times.l1 k x7 (wrap64 (x8 + 1)) x247000 x247001 x247002 x247003 x248000 x248001 x248002 x248003 x250000 x250001 x250002 (wrap64 ((wrap64 (x247002 * x248001)) + (wrap64 (x247003 * x248003))))) else (none))) else (none))) else (spec_l04Times.l0 k (wrap64 (x7 + 1)) x247000 x247001 x247002 x247003 x248000 x248001 x248002 x248003 x250000 x250001 x250002 x250003)
end
def spec_l04Times.f (k : Nat) (a0_0 a0_1 a0_2 a0_3 a1_0 a1_1 a1_2 a1_3 : Int) : Option (Int × Int × Int × Int × Bool) := spec_l04Times.l0 k 0 a0_0 a0_1 a0_2 a0_3 a1_0 a1_1 a1_2 a1_3 0 0 0 0
def spec_l04Times.T8 : Bool × List (List Nat × List Nat) := (true, [([], []), ([], []), ([], []), ([2], [2]), ([3], [3]), ([4], [4]), ([], []), ([], []), ([7, 6], [6, 7]), ([8], [8]), ([5, 9], [5, 9]), ([], []), ([11], [11]), ([12], [12]), ([13], [13]), ([], []), ([], []), ([16, 15], [15, 16]), ([17], [17]), ([14, 18], [14, 18]), ([10, 19], [10, 19]), ([0], [0]), ([21, 1, 0, 1, 2, 3, 4, 5, 6, 7, 8, 9, 10, 11, 12, 13, 14, 15, 16, 17, 18, 19, 20], [1, 21]), ([22, 20, 0, 1, 2, 3, 4, 5, 6, 7, 8, 9, 10, 11, 12, 13, 14, 15, 16, 17, 18, 19, 20], [20, 22])])
def spec_l04Times.B8 : List Nat := [0, 0, 0, 4, 12, 28, 0, 0, 192, 448, 1020, 0, 2048, 6144, 14336, 0, 0, 98304, 229376, 522240, 1048572, 1, 4194303, 8388607]
theorem spec_l04Times.tab8 : rtab .any (opsOf Try.f28 8) = spec_l04Times.T8 := by kernel_rfl
theorem spec_l04Times.bits8 : waitsOk spec_l04Times.T8.2 spec_l04Times.B8 = true := by kernel_rfl
set_option maxHeartbeats 8000000 in
set_option maxRecDepth 100000 in
theorem spec_l04Times.calls (k : Nat) (a0_0 a0_1 a0_2 a0_3 a1_0 a1_1 a1_2 a1_3 r1 r2 r3 r4 : Int) (r5 : Bool) (w : World) (h : spec_l04Times.f k a0_0 a0_1 a0_2 a0_3 a1_0 a1_1 a1_2 a1_3 = some (r1, r2, r3, r4, r5)) :
  Calls Try.prog 28 #[.agg #[.int .i64 a0_0, .int .i64 a0_1, .int .i64 a0_2, .int .i64 a0_3], .agg #[.int .i64 a1_0, .int .i64 a1_1, .int .i64 a1_2, .int .i64 a1_3]] w fun e w' => e = .returned (.tuple #[.agg #[.int .i64 r1, .int .i64 r2, .int .i64 r3, .int .i64 r4], .bool r5]) ∧ Below w.heap.size w w' := by
 have hu26 := Try.underlying26
 have hu24 := Try.underlying24
 have HB := Aside0.mk (Below.refl w.heap.size w)
 unfold spec_l04Times.f at h
 have H := h
 clear h
 have H' := Aside0.mk H
 clear H
 go_enter Try.func28, Try.ntmps28
 go_wp2_with (first | ((refine gd_ 2 ?_); refine by_ 2 #[.int .i64 a0_0, .int .i64 a0_1, .int .i64 a0_2, .int .i64 a0_3] 26 HB ?_; intro gb246 hg w3 BK246 hb GW246 HB_; replace HB := HB_; clear hb hg) | ((refine gd_ 3 ?_); refine by_ 3 #[.int .i64 a1_0, .int .i64 a1_1, .int .i64 a1_2, .int .i64 a1_3] 26 HB ?_; intro gb247 hg w4 BK247 hb GW247 HB_; have NB246_247 := bm_ BK246 hg; have NB247_246 := bn_ BK246 hg; replace BK246 := bb_ BK246 hb; replace HB := HB_; clear hb hg) | ((refine gd_ 4 ?_); refine by_ 4 #[.int .i64 0, .int .i64 0, .int .i64 0, .int .i64 0] 26 HB ?_; intro gb248 hg w5 BK248 hb GW248 HB_; have NB246_248 := bm_ BK246 hg; have NB248_246 := bn_ BK246 hg; have NB247_248 := bm_ BK247 hg; have NB248_247 := bn_ BK247 hg; replace BK246 := bb_ BK246 hb; replace BK247 := bb_ BK247 hb; replace HB := HB_; clear hb hg) | ((refine gd_ 6 ?_); refine by_ 6 #[.int .i64 0, .int .i64 0, .int .i64 0, .int .i64 0] 26 HB ?_; intro gb249 hg w6 BK249 hb GW249 HB_; have NB246_249 := bm_ BK246 hg; have NB249_246 := bn_ BK246 hg; have NB247_249 := bm_ BK247 hg; have NB249_247 := bn_ BK247 hg; have NB248_249 := bm_ BK248 hg; have NB249_248 := bn_ BK248 hg; replace BK246 := bb_ BK246 hb; replace BK247 := bb_ BK247 hb; replace BK248 := bb_ BK248 hb; replace HB := HB_; clear hb hg; have hnb7 := NB249_246.out; have hnc7 := NB246_249.out; have hnb8 := NB249_247.out; have hnc8 := NB247_249.out; have hnb9 := NB249_248.out; have hnc9 := NB248_249.out; obtain ⟨hcz10_0, hcz10_1, hcz10_2, hcz10_3, hfz10_0, hfz10_1, hfz10_2, hfz10_3⟩ := ch4_ BK249))
 go_loopg [7] k (fun kq v7 w' => ∃ (x7_1 : Int) (x250000_1 : Int) (x250001_1 : Int) (x250002_1 : Int) (x250003_1 : Int), v7 = .int .i64 x7_1 ∧ Aside0 (spec_l04Times.l0 kq x7_1 a0_0 a0_1 a0_2 a0_3 a1_0 a1_1 a1_2 a1_3 x250000_1 x250001_1 x250002_1 x250003_1 = some (r1, r2, r3, r4, r5)) ∧ Aside0 (kq ≤ k) ∧ Aside0 (w'.heap[gb246]? = some (.cells #[.int .i64 a0_0, .int .i64 a0_1, .int .i64 a0_2, .int .i64 a0_3] 26 (0, 0))) ∧ Aside0 (w'.heap[gb247]? = some (.cells #[.int .i64 a1_0, .int .i64 a1_1, .int .i64 a1_2, .int .i64 a1_3] 26 (0, 0))) ∧ Aside0 (w'.heap[gb248]? = some (.cells #[.int .i64 0, .int .i64 0, .int .i64 0, .int .i64 0] 26 (0, 0))) ∧ Aside0 (w'.heap[gb249]? = some (.cells #[.int .i64 x250000_1, .int .i64 x250001_1, .int .i64 x250002_1, .int .i64 x250003_1] 26 (0, 0))) ∧ Aside0 (Below w.heap.size w w'))
 case atStart => exact ⟨(0), (0), (0), (0), (0), en_, H', ⟨Nat.le_refl _⟩, fl_ BK246 NB246_249, fl_ BK247 NB247_249, fl_ BK248 NB248_249, bp_ BK249, bw_ HB⟩
 clear H'
 try clear hcz10_0 hcz10_1 hcz10_2 hcz10_3
 try clear hfz10_0 hfz10_1 hfz10_2 hfz10_3
 obtain ⟨x7_1, x250000_1, x250001_1, x250002_1, x250003_1, rfl, HA, HK1, BK246, BK247, BK248, BK249, HB⟩ := hrel
 cases gk with
 | zero => exact absurd HA.out (by simp [spec_l04Times.l0])
 | succ k1 =>
  have H := HA.out
  clear HA
  simp only [spec_l04Times.l0] at H
  replace H := il_ H
  rcases H with ⟨c11b0, H⟩ | ⟨c11b0, H⟩
  ·have H' := Aside0.mk H
   clear H
   go_wp2
   go_loopg [8] k1 (fun kq v8 w' => ∃ (x8_2 : Int) (x250000_2 : Int) (x250001_2 : Int) (x250002_2 : Int) (x250003_2 : Int), v8 = .int .i64 x8_2 ∧ Aside0 (spec_l04Times.l1 kq x7_1 x8_2 a0_0 a0_1 a0_2 a0_3 a1_0 a1_1 a1_2 a1_3 x250000_2 x250001_2 x250002_2 x250003_2 = some (r1, r2, r3, r4, r5)) ∧ Aside0 (kq ≤ k1) ∧ Aside0 (w'.heap[gb246]? = some (.cells #[.int .i64 a0_0, .int .i64 a0_1, .int .i64 a0_2, .int .i64 a0_3] 26 (0, 0))) ∧ Aside0 (w'.heap[gb247]? = some (.cells #[.int .i64 a1_0, .int .i64 a1_1, .int .i64 a1_2, .int .i64 a1_3] 26 (0, 0))) ∧ Aside0 (w'.heap[gb248]? = some (.cells #[.int .i64 0, .int .i64 0, .int .i64 0, .int .i64 0] 26 (0, 0))) ∧ Aside0 (w'.heap[gb249]? = some (.cells #[.int .i64 x250000_2, .int .i64 x250001_2, .int .i64 x250002_2, .int .i64 x250003_2] 26 (0, 0))) ∧ Aside0 (Below w.heap.size w w'))
   case atStart => exact ⟨(0), (x250000_1), (x250001_1), (x250002_1), (x250003_1), en_, H', ⟨Nat.le_refl _⟩, bl_ BK246, bl_ BK247, bl_ BK248, bl_ BK249, bw_ HB⟩
   clear H'
   try clear c11b0
   try clear hcz10_0 hcz10_1 hcz10_2 hcz10_3
   try clear hfz10_0 hfz10_1 hfz10_2 hfz10_3
   obtain ⟨x8_2, x250000_2, x250001_2, x250002_2, x250003_2, rfl, HA, HK2, BK246, BK247, BK248, BK249, HB⟩ := hrel
   cases gk with
   | zero => exact absurd HA.out (by simp [spec_l04Times.l1])
   | succ k2 =>
    have H := HA.out
    clear HA
    simp only [spec_l04Times.l1] at H
    replace H := il_ H
    rcases H with ⟨c12b0, H⟩ | ⟨c12b0, H⟩
    ·by_cases c13 : x7_1 = 0
     ·subst c13
      replace H := i1_ H
      by_cases c14 : x8_2 = 0
      ·subst c14
       replace H := i1_ H
       have H' := Aside0.mk H
       clear H
       try go_wp2
       replace BK246 := bd_ BK246
       replace BK247 := bd_ BK247
       replace BK248 := bd_ BK248
       replace BK249 := bd_ BK249
       replace HB := be_ HB
       refine start_ (n := 24) (S := fun w' => w'.cell? ⟨gb246, 0, none⟩ = some (.int .i64 a0_0) ∧ w'.cell? ⟨gb246, 1, none⟩ = some (.int .i64 a0_1) ∧ w'.cell? ⟨gb246, 2, none⟩ = some (.int .i64 a0_2) ∧ w'.cell? ⟨gb246, 3, none⟩ = some (.int .i64 a0_3) ∧ w'.cell? ⟨gb247, 0, none⟩ = some (.int .i64 a1_0) ∧ w'.cell? ⟨gb247, 1, none⟩ = some (.int .i64 a1_1) ∧ w'.cell? ⟨gb247, 2, none⟩ = some (.int .i64 a1_2) ∧ w'.cell? ⟨gb247, 3, none⟩ = some (.int .i64 a1_3)) (ds := []) (bv_ 24 0) (by kernel_rfl) rfl rfl ⟨cz_ BK246 0, cz_ BK246 1, cz_ BK246 2, cz_ BK246 3, cz_ BK247 0, cz_ BK247 1, cz_ BK247 2, cz_ BK247 3⟩ (fun hHeld => ?_); refine with_tabW spec_l04Times.tab8 spec_l04Times.bits8 (fun HT_ HW_ => ?_)
       generalize wr.drew = w15 at BK246 BK247 BK248 BK249 HB hHeld ⊢
       refine px_ HT_ 0 20 1 ?_
       refine px_ HT_ 1 21 3 ?_
       refine px_ HT_ 2 22 7 ?_
       refine px_ HT_ 3 23 15 ?_
       refine px_ HT_ 4 24 31 ?_
       refine px_ HT_ 6 26 95 ?_
       refine px_ HT_ 7 27 223 ?_
       refine px_ HT_ 8 28 479 ?_
       refine px_ HT_ 11 31 2527 ?_
       refine px_ HT_ 12 32 6623 ?_
       refine px_ HT_ 13 33 14815 ?_
       refine px_ HT_ 15 35 47583 ?_
       refine px_ HT_ 16 36 113119 ?_
       refine px_ HT_ 17 37 244191 ?_
       refine px_ HT_ 21 41 2341343 ?_
       refine ta_ HT_ HW_ 5 (some 25) (bv_ 24 2341375) hHeld ?_ (hy := by rintro w' ⟨s0, s1, s2, s3, s4, s5, s6, s7⟩; go_simp; with_reducible rfl)
       refine ta_ HT_ HW_ 9 (some 29) (bv_ 24 2341887) hHeld ?_ (hy := by rintro w' ⟨s0, s1, s2, s3, s4, s5, s6, s7⟩; go_simp; with_reducible rfl)
       refine px_ HT_ 10 30 2342911 ?_
       refine ta_ HT_ HW_ 14 (some 34) (bv_ 24 2359295) hHeld ?_ (hy := by rintro w' ⟨s0, s1, s2, s3, s4, s5, s6, s7⟩; go_simp; with_reducible rfl)
       refine ta_ HT_ HW_ 18 (some 38) (bv_ 24 2621439) hHeld ?_ (hy := by rintro w' ⟨s0, s1, s2, s3, s4, s5, s6, s7⟩; go_simp; with_reducible rfl)
       refine px_ HT_ 19 39 3145727 ?_
       refine px_ HT_ 20 40 4194303 ?_
       refine px_ HT_ 22 42 8388607 ?_
       refine on_ HT_ 23 none (bv_ 24 16777215) (fun K hK => ?_)
       have hs16 : w15.cell? ⟨gb249, 0, none⟩ = some (.int .i64 x250000_2) := (blk_cell BK249.out 0).trans rfl
       have hfs16 := blk_frozen BK249.out 0
       have hns16_0 := NB246_249.out
       have hns16_1 := NB247_249.out
       have hns16_2 := NB248_249.out
       have hms16_0 := NB249_246.out
       have hms16_1 := NB249_247.out
       have hms16_2 := NB249_248.out
       refine skip_ (w1 := ?_) (by rfl) rfl ?_ ?_
       rotate_left
       ·go_simp
        rfl
       refine hK.out _ _ ⟨(cg_ NB246_249 (hHeld.1)), (cg_ NB246_249 (hHeld.2.1)), (cg_ NB246_249 (hHeld.2.2.1)), (cg_ NB246_249 (hHeld.2.2.2.1)), (cg_ NB247_249 (hHeld.2.2.2.2.1)), (cg_ NB247_249 (hHeld.2.2.2.2.2.1)), (cg_ NB247_249 (hHeld.2.2.2.2.2.2.1)), (cg_ NB247_249 (hHeld.2.2.2.2.2.2.2))⟩ (fun hHeld => ?_)
       clear hK K
       refine done_ (done_of HT_.out (by kernel_rfl)) ?_
       try go_wp2
       go_roundg k2
       case measure => have := HK1.out; have := HK2.out; omega
       case rel => exact ⟨(wrap64 (0 + 1)), (wrap64 ((wrap64 (a0_0 * a1_0)) + (wrap64 (a0_1 * a1_2)))), (x250001_2), (x250002_2), (x250003_2), en_, H', ⟨by have := HK1.out; have := HK2.out; omega⟩, fl_ BK246 NB246_249, fl_ BK247 NB247_249, fl_ BK248 NB248_249, bp_ BK249, bw_ HB⟩
      rw [if_neg c14] at H
      have c14b0 : (x8_2 == 0) = false := beq_eq_false_iff_ne.mpr c14
      have c14b1 : (x8_2 != 0) = true := bne_iff_ne.mpr c14
      by_cases c17 : x8_2 = 1
      ·subst c17
       replace H := i1_ H
       have H' := Aside0.mk H
       clear H
       try go_wp2
       replace BK246 := bd_ BK246
       replace BK247 := bd_ BK247
       replace BK248 := bd_ BK248
       replace BK249 := bd_ BK249
       replace HB := be_ HB
       refine start_ (n := 24) (S := fun w' => w'.cell? ⟨gb246, 0, none⟩ = some (.int .i64 a0_0) ∧ w'.cell? ⟨gb246, 1, none⟩ = some (.int .i64 a0_1) ∧ w'.cell? ⟨gb246, 2, none⟩ = some (.int .i64 a0_2) ∧ w'.cell? ⟨gb246, 3, none⟩ = some (.int .i64 a0_3) ∧ w'.cell? ⟨gb247, 0, none⟩ = some (.int .i64 a1_0) ∧ w'.cell? ⟨gb247, 1, none⟩ = some (.int .i64 a1_1) ∧ w'.cell? ⟨gb247, 2, none⟩ = some (.int .i64 a1_2) ∧ w'.cell? ⟨gb247, 3, none⟩ = some (.int .i64 a1_3)) (ds := []) (bv_ 24 0) (by kernel_rfl) rfl rfl ⟨cz_ BK246 0, cz_ BK246 1, cz_ BK246 2, cz_ BK246 3, cz_ BK247 0, cz_ BK247 1, cz_ BK247 2, cz_ BK247 3⟩ (fun hHeld => ?_); refine with_tabW spec_l04Times.tab8 spec_l04Times.bits8 (fun HT_ HW_ => ?_)
       generalize wr.drew = w18 at BK246 BK247 BK248 BK249 HB hHeld ⊢
       refine px_ HT_ 0 20 1 ?_
       refine px_ HT_ 1 21 3 ?_
       refine px_ HT_ 2 22 7 ?_
       refine px_ HT_ 3 23 15 ?_
       refine px_ HT_ 4 24 31 ?_
       refine px_ HT_ 6 26 95 ?_
       refine px_ HT_ 7 27 223 ?_
       refine px_ HT_ 8 28 479 ?_
       refine px_ HT_ 11 31 2527 ?_
       refine px_ HT_ 12 32 6623 ?_
       refine px_ HT_ 13 33 14815 ?_
       refine px_ HT_ 15 35 47583 ?_
       refine px_ HT_ 16 36 113119 ?_
       refine px_ HT_ 17 37 244191 ?_
       refine px_ HT_ 21 41 2341343 ?_
       refine ta_ HT_ HW_ 5 (some 25) (bv_ 24 2341375) hHeld ?_ (hy := by rintro w' ⟨s0, s1, s2, s3, s4, s5, s6, s7⟩; go_simp; with_reducible rfl)
       refine ta_ HT_ HW_ 9 (some 29) (bv_ 24 2341887) hHeld ?_ (hy := by rintro w' ⟨s0, s1, s2, s3, s4, s5, s6, s7⟩; go_simp; with_reducible rfl)
       refine px_ HT_ 10 30 2342911 ?_
       refine ta_ HT_ HW_ 14 (some 34) (bv_ 24 2359295) hHeld ?_ (hy := by rintro w' ⟨s0, s1, s2, s3, s4, s5, s6, s7⟩; go_simp; with_reducible rfl)
       refine ta_ HT_ HW_ 18 (some 38) (bv_ 24 2621439) hHeld ?_ (hy := by rintro w' ⟨s0, s1, s2, s3, s4, s5, s6, s7⟩; go_simp; with_reducible rfl)
       refine px_ HT_ 19 39 3145727 ?_
       refine px_ HT_ 20 40 4194303 ?_
       refine px_ HT_ 22 42 8388607 ?_
       refine on_ HT_ 23 none (bv_ 24 16777215) (fun K hK => ?_)
       have hs19 : w18.cell? ⟨gb249, 1, none⟩ = some (.int .i64 x250001_2) := (blk_cell BK249.out 1).trans rfl
       have hfs19 := blk_frozen BK249.out 1
       have hns19_0 := NB246_249.out
       have hns19_1 := NB247_249.out
       have hns19_2 := NB248_249.out
       have hms19_0 := NB249_246.out
       have hms19_1 := NB249_247.out
       have hms19_2 := NB249_248.out
       refine skip_ (w1 := ?_) (by rfl) rfl ?_ ?_
       rotate_left
       ·go_simp
        rfl
       refine hK.out _ _ ⟨(cg_ NB246_249 (hHeld.1)), (cg_ NB246_249 (hHeld.2.1)), (cg_ NB246_249 (hHeld.2.2.1)), (cg_ NB246_249 (hHeld.2.2.2.1)), (cg_ NB247_249 (hHeld.2.2.2.2.1)), (cg_ NB247_249 (hHeld.2.2.2.2.2.1)), (cg_ NB247_249 (hHeld.2.2.2.2.2.2.1)), (cg_ NB247_249 (hHeld.2.2.2.2.2.2.2))⟩ (fun hHeld => ?_)
       clear hK K
       refine done_ (done_of HT_.out (by kernel_rfl)) ?_
       try go_wp2
       go_roundg k2
       case measure => have := HK1.out; have := HK2.out; omega
       case rel => exact ⟨(wrap64 (1 + 1)), (x250000_2), (wrap64 ((wrap64 (a0_0 * a1_1)) + (wrap64 (a0_1 * a1_3)))), (x250002_2), (x250003_2), en_, H', ⟨by have := HK1.out; have := HK2.out; omega⟩, fl_ BK246 NB246_249, fl_ BK247 NB247_249, fl_ BK248 NB248_249, bp_ BK249, bw_ HB⟩
      rw [if_neg c17] at H
      exact absurd H (by simp)
     rw [if_neg c13] at H
     have c13b0 : (x7_1 == 0) = false := beq_eq_false_iff_ne.mpr c13
     have c13b1 : (x7_1 != 0) = true := bne_iff_ne.mpr c13
     by_cases c20 : x7_1 = 1
     ·subst c20
      replace H := i1_ H
      by_cases c21 : x8_2 = 0
      ·subst c21
       replace H := i1_ H
       have H' := Aside0.mk H
       clear H
       try go_wp2
       replace BK246 := bd_ BK246
       replace BK247 := bd_ BK247
       replace BK248 := bd_ BK248
       replace BK249 := bd_ BK249
       replace HB := be_ HB
       refine start_ (n := 24) (S := fun w' => w'.cell? ⟨gb246, 0, none⟩ = some (.int .i64 a0_0) ∧ w'.cell? ⟨gb246, 1, none⟩ = some (.int .i64 a0_1) ∧ w'.cell? ⟨gb246, 2, none⟩ = some (.int .i64 a0_2) ∧ w'.cell? ⟨gb246, 3, none⟩ = some (.int .i64 a0_3) ∧ w'.cell? ⟨gb247, 0, none⟩ = some (.int .i64 a1_0) ∧ w'.cell? ⟨gb247, 1, none⟩ = some (.int .i64 a1_1) ∧ w'.cell? ⟨gb247, 2, none⟩ = some (.int .i64 a1_2) ∧ w'.cell? ⟨gb247, 3, none⟩ = some (.int .i64 a1_3)) (ds := []) (bv_ 24 0) (by kernel_rfl) rfl rfl ⟨cz_ BK246 0, cz_ BK246 1, cz_ BK246 2, cz_ BK246 3, cz_ BK247 0, cz_ BK247 1, cz_ BK247 2, cz_ BK247 3⟩ (fun hHeld => ?_); refine with_tabW spec_l04Times.tab8 spec_l04Times.bits8 (fun HT_ HW_ => ?_)
       generalize wr.drew = w22 at BK246 BK247 BK248 BK249 HB hHeld ⊢
       refine px_ HT_ 0 20 1 ?_
       refine px_ HT_ 1 21 3 ?_
       refine px_ HT_ 2 22 7 ?_
       refine px_ HT_ 3 23 15 ?_
       refine px_ HT_ 4 24 31 ?_
       refine px_ HT_ 6 26 95 ?_
       refine px_ HT_ 7 27 223 ?_
       refine px_ HT_ 8 28 479 ?_
       refine px_ HT_ 11 31 2527 ?_
       refine px_ HT_ 12 32 6623 ?_
       refine px_ HT_ 13 33 14815 ?_
       refine px_ HT_ 15 35 47583 ?_
       refine px_ HT_ 16 36 113119 ?_
       refine px_ HT_ 17 37 244191 ?_
       refine px_ HT_ 21 41 2341343 ?_
       refine ta_ HT_ HW_ 5 (some 25) (bv_ 24 2341375) hHeld ?_ (hy := by rintro w' ⟨s0, s1, s2, s3, s4, s5, s6, s7⟩; go_simp; with_reducible rfl)
       refine ta_ HT_ HW_ 9 (some 29) (bv_ 24 2341887) hHeld ?_ (hy := by rintro w' ⟨s0, s1, s2, s3, s4, s5, s6, s7⟩; go_simp; with_reducible rfl)
       refine px_ HT_ 10 30 2342911 ?_
       refine ta_ HT_ HW_ 14 (some 34) (bv_ 24 2359295) hHeld ?_ (hy := by rintro w' ⟨s0, s1, s2, s3, s4, s5, s6, s7⟩; go_simp; with_reducible rfl)
       refine ta_ HT_ HW_ 18 (some 38) (bv_ 24 2621439) hHeld ?_ (hy := by rintro w' ⟨s0, s1, s2, s3, s4, s5, s6, s7⟩; go_simp; with_reducible rfl)
       refine px_ HT_ 19 39 3145727 ?_
       refine px_ HT_ 20 40 4194303 ?_
       refine px_ HT_ 22 42 8388607 ?_
       refine on_ HT_ 23 none (bv_ 24 16777215) (fun K hK => ?_)
       have hs23 : w22.cell? ⟨gb249, 2, none⟩ = some (.int .i64 x250002_2) := (blk_cell BK249.out 2).trans rfl
       have hfs23 := blk_frozen BK249.out 2
       have hns23_0 := NB246_249.out
       have hns23_1 := NB247_249.out
       have hns23_2 := NB248_249.out
       have hms23_0 := NB249_246.out
       have hms23_1 := NB249_247.out
       have hms23_2 := NB249_248.out
       refine skip_ (w1 := ?_) (by rfl) rfl ?_ ?_
       rotate_left
       ·go_simp
        rfl
       refine hK.out _ _ ⟨(cg_ NB246_249 (hHeld.1)), (cg_ NB246_249 (hHeld.2.1)), (cg_ NB246_249 (hHeld.2.2.1)), (cg_ NB246_249 (hHeld.2.2.2.1)), (cg_ NB247_249 (hHeld.2.2.2.2.1)), (cg_ NB247_249 (hHeld.2.2.2.2.2.1)), (cg_ NB247_249 (hHeld.2.2.2.2.2.2.1)), (cg_ NB247_249 (hHeld.2.2.2.2.2.2.2))⟩ (fun hHeld => ?_)
       clear hK K
       refine done_ (done_of HT_.out (by kernel_rfl)) ?_
       try go_wp2
       go_roundg k2
       case measure => have := HK1.out; have := HK2.out; omega
       case rel => exact ⟨(wrap64 (0 + 1)), (x250000_2), (x250001_2), (wrap64 ((wrap64 (a0_2 * a1_0)) + (wrap64 (a0_3 * a1_2)))), (x250003_2), en_, H', ⟨by have := HK1.out; have := HK2.out; omega⟩, fl_ BK246 NB246_249, fl_ BK247 NB247_249, fl_ BK248 NB248_249, bp_ BK249, bw_ HB⟩
      rw [if_neg c21] at H
      have c21b0 : (x8_2 == 0) = false := beq_eq_false_iff_ne.mpr c21
      have c21b1 : (x8_2 != 0) = true := bne_iff_ne.mpr c21
      by_cases c24 : x8_2 = 1
      ·subst c24
       replace H := i1_ H
       have H' := Aside0.mk H
       clear H
       try go_wp2
       replace BK246 := bd_ BK246
       replace BK247 := bd_ BK247
       replace BK248 := bd_ BK248
       replace BK249 := bd_ BK249
       replace HB := be_ HB
       refine start_ (n := 24) (S := fun w' => w'.cell? ⟨gb246, 0, none⟩ = some (.int .i64 a0_0) ∧ w'.cell? ⟨gb246, 1, none⟩ = some (.int .i64 a0_1) ∧ w'.cell? ⟨gb246, 2, none⟩ = some (.int .i64 a0_2) ∧ w'.cell? ⟨gb246, 3, none⟩ = some (.int .i64 a0_3) ∧ w'.cell? ⟨gb247, 0, none⟩ = some (.int .i64 a1_0) ∧ w'.cell? ⟨gb247, 1, none⟩ = some (.int .i64 a1_1) ∧ w'.cell? ⟨gb247, 2, none⟩ = some (.int .i64 a1_2) ∧ w'.cell? ⟨gb247, 3, none⟩ = some (.int .i64 a1_3)) (ds := []) (bv_ 24 0) (by kernel_rfl) rfl rfl ⟨cz_ BK246 0, cz_ BK246 1, cz_ BK246 2, cz_ BK246 3, cz_ BK247 0, cz_ BK247 1, cz_ BK247 2, cz_ BK247 3⟩ (fun hHeld => ?_); refine with_tabW spec_l04Times.tab8 spec_l04Times.bits8 (fun HT_ HW_ => ?_)
       generalize wr.drew = w25 at BK246 BK247 BK248 BK249 HB hHeld ⊢
       refine px_ HT_ 0 20 1 ?_
       refine px_ HT_ 1 21 3 ?_
       refine px_ HT_ 2 22 7 ?_
       refine px_ HT_ 3 23 15 ?_
       refine px_ HT_ 4 24 31 ?_
       refine px_ HT_ 6 26 95 ?_
       refine px_ HT_ 7 27 223 ?_
       refine px_ HT_ 8 28 479 ?_
       refine px_ HT_ 11 31 2527 ?_
       refine px_ HT_ 12 32 6623 ?_
       refine px_ HT_ 13 33 14815 ?_
       refine px_ HT_ 15 35 47583 ?_
       refine px_ HT_ 16 36 113119 ?_
       refine px_ HT_ 17 37 244191 ?_
       refine px_ HT_ 21 41 2341343 ?_
       refine ta_ HT_ HW_ 5 (some 25) (bv_ 24 2341375) hHeld ?_ (hy := by rintro w' ⟨s0, s1, s2, s3, s4, s5, s6, s7⟩; go_simp; with_reducible rfl)
       refine ta_ HT_ HW_ 9 (some 29) (bv_ 24 2341887) hHeld ?_ (hy := by rintro w' ⟨s0, s1, s2, s3, s4, s5, s6, s7⟩; go_simp; with_reducible rfl)
       refine px_ HT_ 10 30 2342911 ?_
       refine ta_ HT_ HW_ 14 (some 34) (bv_ 24 2359295) hHeld ?_ (hy := by rintro w' ⟨s0, s1, s2, s3, s4, s5, s6, s7⟩; go_simp; with_reducible rfl)
       refine ta_ HT_ HW_ 18 (some 38) (bv_ 24 2621439) hHeld ?_ (hy := by rintro w' ⟨s0, s1, s2, s3, s4, s5, s6, s7⟩; go_simp; with_reducible rfl)
       refine px_ HT_ 19 39 3145727 ?_
       refine px_ HT_ 20 40 4194303 ?_
       refine px_ HT_ 22 42 8388607 ?_
       refine on_ HT_ 23 none (bv_ 24 16777215) (fun K hK => ?_)
       have hs26 : w25.cell? ⟨gb249, 3, none⟩ = some (.int .i64 x250003_2) := (blk_cell BK249.out 3).trans rfl
       have hfs26 := blk_frozen BK249.out 3
       have hns26_0 := NB246_249.out
       have hns26_1 := NB247_249.out
       have hns26_2 := NB248_249.out
       have hms26_0 := NB249_246.out
       have hms26_1 := NB249_247.out
       have hms26_2 := NB249_248.out
       refine skip_ (w1 := ?_) (by rfl) rfl ?_ ?_
       rotate_left
       ·go_simp
        rfl
       refine hK.out _ _ ⟨(cg_ NB246_249 (hHeld.1)), (cg_ NB246_249 (hHeld.2.1)), (cg_ NB246_249 (hHeld.2.2.1)), (cg_ NB246_249 (hHeld.2.2.2.1)), (cg_ NB247_249 (hHeld.2.2.2.2.1)), (cg_ NB247_249 (hHeld.2.2.2.2.2.1)), (cg_ NB247_249 (hHeld.2.2.2.2.2.2.1)), (cg_ NB247_249 (hHeld.2.2.2.2.2.2.2))⟩ (fun hHeld => ?_)
       clear hK K
       refine done_ (done_of HT_.out (by kernel_rfl)) ?_
       try go_wp2
       go_roundg k2
       case measure => have := HK1.out; have := HK2.out; omega
       case rel => exact ⟨(wrap64 (1 + 1)), (x250000_2), (x250001_2), (x250002_2), (wrap64 ((wrap64 (a0_2 * a1_1)) + (wrap64 (a0_3 * a1_3)))), en_, H', ⟨by have := HK1.out; have := HK2.out; omega⟩, fl_ BK246 NB246_249, fl_ BK247 NB247_249, fl_ BK248 NB248_249, bp_ BK249, bw_ HB⟩
      rw [if_neg c24] at H
      exact absurd H (by simp)
     rw [if_neg c20] at H
     exact absurd H (by simp)
    have H' := Aside0.mk H
    clear H
    go_wp2
    go_roundg k2
    case measure => have := HK1.out; have := HK2.out; omega
    case rel => exact ⟨(wrap64 (x7_1 + 1)), (x250000_2), (x250001_2), (x250002_2), (x250003_2), en_, H', ⟨by have := HK1.out; have := HK2.out; omega⟩, bl_ BK246, bl_ BK247, bl_ BK248, bl_ BK249, bw_ HB⟩
  replace H := oc_ H
  obtain ⟨⟨t250, t251, t252, t253, t254⟩, A27, H⟩ := H
  simp only [Option.some.injEq, Prod.mk.injEq] at H
  obtain ⟨rfl, rfl, rfl, rfl, rfl⟩ := H
  have hnb28 := NB249_246.out
  have hnc28 := NB246_249.out
  have hnb29 := NB249_247.out
  have hnc29 := NB247_249.out
  have hnb30 := NB249_248.out
  have hnc30 := NB248_249.out
  obtain ⟨hcz31_0, hcz31_1, hcz31_2, hcz31_3, hfz31_0, hfz31_1, hfz31_2, hfz31_3⟩ := ch4_ BK249
  go_wp2_with (first | ((refine gc_ 33 ?_); refine ge_ 45 Try.func33 #[.agg #[.int .i64 x250000_1, .int .i64 x250001_1, .int .i64 x250002_1, .int .i64 x250003_1]] ?_; (with_reducible refine (spec_l04Reduce.calls k1 x250000_1 x250001_1 x250002_1 x250003_1 t250 t251 t252 t253 t254 _ A27.out).mono ?_); rintro e w32 ⟨rfl, hb⟩; refine ⟨_, rfl, ?_⟩; replace BK246 := bb_ BK246 hb; replace BK247 := bb_ BK247 hb; replace BK248 := bb_ BK248 hb; replace BK249 := bb_ BK249 hb; replace HB := bt_ HB hb; (try clear hb)) | ((refine gd_ 9 ?_); refine by_ 9 #[.int .i64 0, .int .i64 0, .int .i64 0, .int .i64 0] 26 HB ?_; intro gb255 hg w33 BK255 hb GW255 HB_; have NB246_255 := bm_ BK246 hg; have NB255_246 := bn_ BK246 hg; have NB247_255 := bm_ BK247 hg; have NB255_247 := bn_ BK247 hg; have NB248_255 := bm_ BK248 hg; have NB255_248 := bn_ BK248 hg; have NB249_255 := bm_ BK249 hg; have NB255_249 := bn_ BK249 hg; replace BK246 := bb_ BK246 hb; replace BK247 := bb_ BK247 hb; replace BK248 := bb_ BK248 hb; replace BK249 := bb_ BK249 hb; replace HB := HB_; clear hb hg; have hnb34 := NB255_246.out; have hnc34 := NB246_255.out; have hnb35 := NB255_247.out; have hnc35 := NB247_255.out; have hnb36 := NB255_248.out; have hnc36 := NB248_255.out; have hnb37 := NB255_249.out; have hnc37 := NB249_255.out; obtain ⟨hcz38_0, hcz38_1, hcz38_2, hcz38_3, hfz38_0, hfz38_1, hfz38_2, hfz38_3⟩ := ch4_ BK255; have hnb39 := NB248_246.out; have hnc39 := NB246_248.out; have hnb40 := NB248_247.out; have hnc40 := NB247_248.out; obtain ⟨hcz41_0, hcz41_1, hcz41_2, hcz41_3, hfz41_0, hfz41_1, hfz41_2, hfz41_3⟩ := ch4_ BK248))
  refine bodyPost_ret (results_ct rfl _ _ gb248 26 #[.int .i64 t250, .int .i64 t251, .int .i64 t252, .int .i64 t253] (0, 0) _ rfl (bp_ BK248).out Try.underlying26 rfl (by kernel_rfl)) rfl ?_
  exact ⟨es_, (bw_ HB).out⟩
end Go.Proofs.Yteniblbnmcfmjaa.QM
