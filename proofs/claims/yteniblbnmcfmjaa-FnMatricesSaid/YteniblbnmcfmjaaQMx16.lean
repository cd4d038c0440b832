import Derived.Test.YteniblbnmcfmjaaQMx6
import Derived.Test.YteniblbnmcfmjaaQMx15
namespace Go.Proofs.Yteniblbnmcfmjaa.QM
open Go.RowKit Go.Proofs.YteniblbnmcfmjaaW.PrintWords Go.Proofs.YteniblbnmcfmjaaW.PrintLast Go.Proofs.YteniblbnmcfmjaaW.PrintMore
attribute [local go_sem] isSome_setCell max2_int min2_int max_two min_two max_three min_three max_four min_four
set_option linter.unusedVariables false
set_option linter.unusedSimpArgs false

/-! ### impl_product: function 26 -/
mutual
def impl_product.l0 : Nat → Int → Int → Int → Int → Int → Int → Int → Int → Int → Int → Int → Int → Int → Option (Int × Int × Int × Int × Bool)
 | 0, _, _, _, _, _, _, _, _, _, _, _, _, _ => none
 | k + 1, x10, x195000, x195001, x195002, x195003, x196000, x196001, x196002, x196003, x198000, x198001, x198002, x198003 => if x10 < 2 then (impl_product.l1 k x10 x10 0 x195000 x195001 x195002 x195003 x196000 x196001 x196002 x196003 x198000 x198001 x198002 x198003) else ((impl_reduced.f k x198000 x198001 x198002 x198003).bind fun bt198 => (some (bt198.1, bt198.2.1, bt198.2.2.1, bt198.2.2.2.1, bt198.2.2.2.2)))
def impl_product.l1 : Nat → Int → Int → Int → Int → Int → Int → Int → Int → Int → Int → Int → Int → Int → Int → Int → Option (Int × Int × Int × Int × Bool)
 | 0, _, _, _, _, _, _, _, _, _, _, _, _, _, _, _ => none
 | k + 1, x7, x10, x13, x195000, x195001, x195002, x195003, x196000, x196001, x196002, x196003, x198000, x198001, x198002, x198003 => if x13 < 2 then (if x7 = 0 then (if x13 = 0 then (impl_product.l1 k x7 x10 (wrap64 (x13 + 1)) x195000 x195001 x195002 x195003 x196000 x196001 x196002 x196003 (wrap64 ((wrap64 (x195000 * x196000)) + (wrap64 (x195001 * x196002)))) x198001 x198002 x198003) else (if x13 = 1 then (impl_product.l1 k x7 x10 (wrap64 (x13 + 1)) x195000 x195001 x195002 x195003 x196000 x196001 x196002 x196003 x198000 (wrap64 ((wrap64 (x195000 * x196001)) + (wrap64 (x195001 * x196003)))) x198002 x198003) else (none))) else (if x7 = 1 then (if x13 = 0 then (impl_product.l1 k x7 x10 (wrap64 (x13 + 1)) x195000 x195001 x195002 x195003 x196000 x196001 x196002 x196003 x198000 x198001 (wrap64 ((wrap64 (x195002 * x196000)) + (wrap64 (x195003 * x196002)))) x198003) else (if x13 = 1 then (impl_product.l1 k x7 x10 (wrap64 (x13 + 1)) x195000 x195001 x195002 x195003 x196000 x196001 x196002 x196003 x198000 x198001 x198002 (wrap64 ((wrap64 (x195002 * x196001)) + (wrap64 (x195003 * x196003))))) else (none))) else (none))) else (impl_product.l0 k (wrap64 (x10 + 1)) x195000 x195001 x195002 x195003 x196000 x196001 x196002 x196003 x198000 x198001 x198002 x198003)
end
def impl_product.f (k : Nat) (a0_0 a0_1 a0_2 a0_3 a1_0 a1_1 a1_2 a1_3 : Int) : Option (Int × Int × Int × Int × Bool) := impl_product.l0 k 0 a0_0 a0_1 a0_2 a0_3 a1_0 a1_1 a1_2 a1_3 0 0 0 0
def impl_product.T8 : Bool × List (List Nat × List Nat) := (true, [([], []), ([], []), ([], []), ([2], [2]), ([3], [3]), ([4], [4]), ([], []), ([], []), ([7, 6], [6, 7]), ([8], [8]), ([5, 9], [5, 9]), ([], []), ([11], [11]), ([12], [12]), ([13], [13]), ([], []), ([], []), ([16, 15], [15, 16]), ([17], [17]), ([14, 18], [14, 18]), ([10, 19], [10, 19]), ([0], [0]), ([21, 1, 0, 1, 2, 3, 4, 5, 6, 7, 8, 9, 10, 11, 12, 13, 14, 15, 16, 17, 18, 19, 20], [1, 21]), ([22, 20, 0, 1, 2, 3, 4, 5, 6, 7, 8, 9, 10, 11, 12, 13, 14, 15, 16, 17, 18, 19, 20], [20, 22])])
def impl_product.B8 : List Nat := [0, 0, 0, 4, 12, 28, 0, 0, 192, 448, 1020, 0, 2048, 6144, 14336, 0, 0, 98304, 229376, 522240, 1048572, 1, 4194303, 8388607]
theorem impl_product.tab8 : rtab .any (opsOf Try.f26 8) = impl_product.T8 := by kernel_rfl
theorem impl_product.bits8 : waitsOk impl_product.T8.2 impl_product.B8 = true := by kernel_rfl
set_option maxHeartbeats 8000000 in
set_option maxRecDepth 100000 in
theorem impl_product.calls (k : Nat) (a0_0 a0_1 a0_2 a0_3 a1_0 a1_1 a1_2 a1_3 r1 r2 r3 r4 : Int) (r5 : Bool) (w : World) (h : impl_product.f k a0_0 a0_1 a0_2 a0_3 a1_0 a1_1 a1_2 a1_3 = some (r1, r2, r3, r4, r5)) :
  Calls Try.prog 26 #[.agg #[.int .i64 a0_0, .int .i64 a0_1, .int .i64 a0_2, .int .i64 a0_3], .agg #[.int .i64 a1_0, .int .i64 a1_1, .int .i64 a1_2, .int .i64 a1_3]] w fun e w' => e = .returned (.tuple #[.agg #[.int .i64 r1, .int .i64 r2, .int .i64 r3, .int .i64 r4], .bool r5]) ∧ Below w.heap.size w w' := by
 have hu26 := Try.underlying26
 have hu24 := Try.underlying24
 have HB := Aside0.mk (Below.refl w.heap.size w)
 unfold impl_product.f at h
 have H := h
 clear h
 have H' := Aside0.mk H
 clear H
 go_enter Try.func26, Try.ntmps26
 go_wp2_with (first | ((refine gd_ 2 ?_); refine by_ 2 #[.int .i64 a0_0, .int .i64 a0_1, .int .i64 a0_2, .int .i64 a0_3] 26 HB ?_; intro gb194 hg w3 BK194 hb GW194 HB_; replace HB := HB_; clear hb hg) | ((refine gd_ 3 ?_); refine by_ 3 #[.int .i64 a1_0, .int .i64 a1_1, .int .i64 a1_2, .int .i64 a1_3] 26 HB ?_; intro gb195 hg w4 BK195 hb GW195 HB_; have NB194_195 := bm_ BK194 hg; have NB195_194 := bn_ BK194 hg; replace BK194 := bb_ BK194 hb; replace HB := HB_; clear hb hg) | ((refine gd_ 4 ?_); refine by_ 4 #[.int .i64 0, .int .i64 0, .int .i64 0, .int .i64 0] 26 HB ?_; intro gb196 hg w5 BK196 hb GW196 HB_; have NB194_196 := bm_ BK194 hg; have NB196_194 := bn_ BK194 hg; have NB195_196 := bm_ BK195 hg; have NB196_195 := bn_ BK195 hg; replace BK194 := bb_ BK194 hb; replace BK195 := bb_ BK195 hb; replace HB := HB_; clear hb hg) | ((refine gd_ 6 ?_); refine by_ 6 #[.int .i64 0, .int .i64 0, .int .i64 0, .int .i64 0] 26 HB ?_; intro gb197 hg w6 BK197 hb GW197 HB_; have NB194_197 := bm_ BK194 hg; have NB197_194 := bn_ BK194 hg; have NB195_197 := bm_ BK195 hg; have NB197_195 := bn_ BK195 hg; have NB196_197 := bm_ BK196 hg; have NB197_196 := bn_ BK196 hg; replace BK194 := bb_ BK194 hb; replace BK195 := bb_ BK195 hb; replace BK196 := bb_ BK196 hb; replace HB := HB_; clear hb hg; have hnb7 := NB197_194.out; have hnc7 := NB194_197.out; have hnb8 := NB197_195.out; have hnc8 := NB195_197.out; have hnb9 := NB197_196.out; have hnc9 := NB196_197.out; obtain ⟨hcz10_0, hcz10_1, hcz10_2, hcz10_3, hfz10_0, hfz10_1, hfz10_2, hfz10_3⟩ := ch4_ BK197))
 go_loopg [10] k (fun kq v10 w' => ∃ (x10_1 : Int) (x198000_1 : Int) (x198001_1 : Int) (x198002_1 : Int) (x198003_1 : Int), v10 = .int .i64 x10_1 ∧ Aside0 (impl_product.l0 kq x10_1 a0_0 a0_1 a0_2 a0_3 a1_0 a1_1 a1_2 a1_3 x198000_1 x198001_1 x198002_1 x198003_1 = some (r1, r2, r3, r4, r5)) ∧ Aside0 (kq ≤ k) ∧ Aside0 (w'.heap[gb194]? = some (.cells #[.int .i64 a0_0, .int .i64 a0_1, .int .i64 a0_2, .int .i64 a0_3] 26 (0, 0))) ∧ Aside0 (w'.heap[gb195]? = some (.cells #[.int .i64 a1_0, .int .i64 a1_1, .int .i64 a1_2, .int .i64 a1_3] 26 (0, 0))) ∧ Aside0 (w'.heap[gb196]? = some (.cells #[.int .i64 0, .int .i64 0, .int .i64 0, .int .i64 0] 26 (0, 0))) ∧ Aside0 (w'.heap[gb197]? = some (.cells #[.int .i64 x198000_1, .int .i64 x198001_1, .int .i64 x198002_1, .int .i64 x198003_1] 26 (0, 0))) ∧ Aside0 (Below w.heap.size w w'))
 case atStart => exact ⟨(0), (0), (0), (0), (0), en_, H', ⟨Nat.le_refl _⟩, fl_ BK194 NB194_197, fl_ BK195 NB195_197, fl_ BK196 NB196_197, bp_ BK197, bw_ HB⟩
 clear H'
 try clear hcz10_0 hcz10_1 hcz10_2 hcz10_3
 try clear hfz10_0 hfz10_1 hfz10_2 hfz10_3
 obtain ⟨x10_1, x198000_1, x198001_1, x198002_1, x198003_1, rfl, HA, HK1, BK194, BK195, BK196, BK197, HB⟩ := hrel
 cases gk with
 | zero => exact absurd HA.out (by simp [impl_product.l0])
 | succ k1 =>
  have H := HA.out
  clear HA
  simp only [impl_product.l0] at H
  replace H := il_ H
  rcases H with ⟨c11b0, H⟩ | ⟨c11b0, H⟩
  ·have H' := Aside0.mk H
   clear H
   go_wp2
   go_loopg [13] k1 (fun kq v13 w' => ∃ (x13_2 : Int) (x198000_2 : Int) (x198001_2 : Int) (x198002_2 : Int) (x198003_2 : Int), v13 = .int .i64 x13_2 ∧ Aside0 (impl_product.l1 kq x10_1 x10_1 x13_2 a0_0 a0_1 a0_2 a0_3 a1_0 a1_1 a1_2 a1_3 x198000_2 x198001_2 x198002_2 x198003_2 = some (r1, r2, r3, r4, r5)) ∧ Aside0 (kq ≤ k1) ∧ Aside0 (w'.heap[gb194]? = some (.cells #[.int .i64 a0_0, .int .i64 a0_1, .int .i64 a0_2, .int .i64 a0_3] 26 (0, 0))) ∧ Aside0 (w'.heap[gb195]? = some (.cells #[.int .i64 a1_0, .int .i64 a1_1, .int .i64 a1_2, .int .i64 a1_3] 26 (0, 0))) ∧ Aside0 (w'.heap[gb196]? = some (.cells #[.int .i64 0, .int .i64 0, .int .i64 0, .int .i64 0] 26 (0, 0))) ∧ Aside0 (w'.heap[gb197]? = some (.cells #[.int .i64 x198000_2, .int .i64 x198001_2, .int .i64 x198002_2, .int .i64 x198003_2] 26 (0, 0))) ∧ Aside0 (Below w.heap.size w w'))
   case atStart => exact ⟨(0), (x198000_1), (x198001_1), (x198002_1), (x198003_1), en_, H', ⟨Nat.le_refl _⟩, bl_ BK194, bl_ BK195, bl_ BK196, bl_ BK197, bw_ HB⟩
   clear H'
   try clear c11b0
   try clear hcz10_0 hcz10_1 hcz10_2 hcz10_3
   try clear hfz10_0 hfz10_1 hfz10_2 hfz10_3
   obtain ⟨x13_2, x198000_2, x198001_2, x198002_2, x198003_2, rfl, HA, HK2, BK194, BK195, BK196, BK197, HB⟩ := hrel
   cases gk with
   | zero => exact absurd HA.out (by simp [impl_product.l1])
   | succ k2 =>
    have H := HA.out
    clear HA
    simp only [impl_product.l1] at H
    replace H := il_ H
    rcases H with ⟨c12b0, H⟩ | ⟨c12b0, H⟩
    ·by_cases c13 : x10_1 = 0
     ·subst c13
      replace H := i1_ H
      by_cases c14 : x13_2 = 0
      ·subst c14
       replace H := i1_ H
       have H' := Aside0.mk H
       clear H
       try go_wp2
       replace BK194 := bd_ BK194
       replace BK195 := bd_ BK195
       replace BK196 := bd_ BK196
       replace BK197 := bd_ BK197
       replace HB := be_ HB
       refine start_ (n := 24) (S := fun w' => w'.cell? ⟨gb194, 0, none⟩ = some (.int .i64 a0_0) ∧ w'.cell? ⟨gb194, 1, none⟩ = some (.int .i64 a0_1) ∧ w'.cell? ⟨gb194, 2, none⟩ = some (.int .i64 a0_2) ∧ w'.cell? ⟨gb194, 3, none⟩ = some (.int .i64 a0_3) ∧ w'.cell? ⟨gb195, 0, none⟩ = some (.int .i64 a1_0) ∧ w'.cell? ⟨gb195, 1, none⟩ = some (.int .i64 a1_1) ∧ w'.cell? ⟨gb195, 2, none⟩ = some (.int .i64 a1_2) ∧ w'.cell? ⟨gb195, 3, none⟩ = some (.int .i64 a1_3)) (ds := []) (bv_ 24 0) (by kernel_rfl) rfl rfl ⟨cz_ BK194 0, cz_ BK194 1, cz_ BK194 2, cz_ BK194 3, cz_ BK195 0, cz_ BK195 1, cz_ BK195 2, cz_ BK195 3⟩ (fun hHeld => ?_); refine with_tabW impl_product.tab8 impl_product.bits8 (fun HT_ HW_ => ?_)
       generalize wr.drew = w15 at BK194 BK195 BK196 BK197 HB hHeld ⊢
       refine px_ HT_ 0 16 1 ?_
       refine px_ HT_ 1 17 3 ?_
       refine px_ HT_ 2 18 7 ?_
       refine px_ HT_ 3 19 15 ?_
       refine px_ HT_ 4 20 31 ?_
       refine px_ HT_ 6 22 95 ?_
       refine px_ HT_ 7 23 223 ?_
       refine px_ HT_ 8 24 479 ?_
       refine px_ HT_ 11 27 2527 ?_
       refine px_ HT_ 12 28 6623 ?_
       refine px_ HT_ 13 29 14815 ?_
       refine px_ HT_ 15 31 47583 ?_
       refine px_ HT_ 16 32 113119 ?_
       refine px_ HT_ 17 33 244191 ?_
       refine px_ HT_ 21 37 2341343 ?_
       refine ta_ HT_ HW_ 5 (some 21) (bv_ 24 2341375) hHeld ?_ (hy := by rintro w' ⟨s0, s1, s2, s3, s4, s5, s6, s7⟩; go_simp; with_reducible rfl)
       refine ta_ HT_ HW_ 9 (some 25) (bv_ 24 2341887) hHeld ?_ (hy := by rintro w' ⟨s0, s1, s2, s3, s4, s5, s6, s7⟩; go_simp; with_reducible rfl)
       refine px_ HT_ 10 26 2342911 ?_
       refine ta_ HT_ HW_ 14 (some 30) (bv_ 24 2359295) hHeld ?_ (hy := by rintro w' ⟨s0, s1, s2, s3, s4, s5, s6, s7⟩; go_simp; with_reducible rfl)
       refine ta_ HT_ HW_ 18 (some 34) (bv_ 24 2621439) hHeld ?_ (hy := by rintro w' ⟨s0, s1, s2, s3, s4, s5, s6, s7⟩; go_simp; with_reducible rfl)
       refine px_ HT_ 19 35 3145727 ?_
       refine px_ HT_ 20 36 4194303 ?_
       refine px_ HT_ 22 38 8388607 ?_
       refine on_ HT_ 23 none (bv_ 24 16777215) (fun K hK => ?_)
       have hs16 : w15.cell? ⟨gb197, 0, none⟩ = some (.int .i64 x198000_2) := (blk_cell BK197.out 0).trans rfl
       have hfs16 := blk_frozen BK197.out 0
       have hns16_0 := NB194_197.out
       have hns16_1 := NB195_197.out
       have hns16_2 := NB196_197.out
       have hms16_0 := NB197_194.out
       have hms16_1 := NB197_195.out
       have hms16_2 := NB197_196.out
       refine skip_ (w1 := ?_) (by rfl) rfl ?_ ?_
       rotate_left
       ·go_simp
        rfl
       refine hK.out _ _ ⟨(cg_ NB194_197 (hHeld.1)), (cg_ NB194_197 (hHeld.2.1)), (cg_ NB194_197 (hHeld.2.2.1)), (cg_ NB194_197 (hHeld.2.2.2.1)), (cg_ NB195_197 (hHeld.2.2.2.2.1)), (cg_ NB195_197 (hHeld.2.2.2.2.2.1)), (cg_ NB195_197 (hHeld.2.2.2.2.2.2.1)), (cg_ NB195_197 (hHeld.2.2.2.2.2.2.2))⟩ (fun hHeld => ?_)
       clear hK K
       refine done_ (done_of HT_.out (by kernel_rfl)) ?_
       try go_wp2
       go_roundg k2
       case measure => have := HK1.out; have := HK2.out; omega
       case rel => exact ⟨(wrap64 (0 + 1)), (wrap64 ((wrap64 (a0_0 * a1_0)) + (wrap64 (a0_1 * a1_2)))), (x198001_2), (x198002_2), (x198003_2), en_, H', ⟨by have := HK1.out; have := HK2.out; omega⟩, fl_ BK194 NB194_197, fl_ BK195 NB195_197, fl_ BK196 NB196_197, bp_ BK197, bw_ HB⟩
      rw [if_neg c14] at H
      have c14b0 : (x13_2 == 0) = false := beq_eq_false_iff_ne.mpr c14
      have c14b1 : (x13_2 != 0) = true := bne_iff_ne.mpr c14
      by_cases c17 : x13_2 = 1
      ·subst c17
       replace H := i1_ H
       have H' := Aside0.mk H
       clear H
       try go_wp2
       replace BK194 := bd_ BK194
       replace BK195 := bd_ BK195
       replace BK196 := bd_ BK196
       replace BK197 := bd_ BK197
       replace HB := be_ HB
       refine start_ (n := 24) (S := fun w' => w'.cell? ⟨gb194, 0, none⟩ = some (.int .i64 a0_0) ∧ w'.cell? ⟨gb194, 1, none⟩ = some (.int .i64 a0_1) ∧ w'.cell? ⟨gb194, 2, none⟩ = some (.int .i64 a0_2) ∧ w'.cell? ⟨gb194, 3, none⟩ = some (.int .i64 a0_3) ∧ w'.cell? ⟨gb195, 0, none⟩ = some (.int .i64 a1_0) ∧ w'.cell? ⟨gb195, 1, none⟩ = some (.int .i64 a1_1) ∧ w'.cell? ⟨gb195, 2, none⟩ = some (.int .i64 a1_2) ∧ w'.cell? ⟨gb195, 3, none⟩ = some (.int .i64 a1_3)) (ds := []) (bv_ 24 0) (by kernel_rfl) rfl rfl ⟨cz_ BK194 0, cz_ BK194 1, cz_ BK194 2, cz_ BK194 3, cz_ BK195 0, cz_ BK195 1, cz_ BK195 2, cz_ BK195 3⟩ (fun hHeld => ?_); refine with_tabW impl_product.tab8 impl_product.bits8 (fun HT_ HW_ => ?_)
       generalize wr.drew = w18 at BK194 BK195 BK196 BK197 HB hHeld ⊢
       refine px_ HT_ 0 16 1 ?_
       refine px_ HT_ 1 17 3 ?_
       refine px_ HT_ 2 18 7 ?_
       refine px_ HT_ 3 19 15 ?_
       refine px_ HT_ 4 20 31 ?_
       refine px_ HT_ 6 22 95 ?_
       refine px_ HT_ 7 23 223 ?_
       refine px_ HT_ 8 24 479 ?_
       refine px_ HT_ 11 27 2527 ?_
       refine px_ HT_ 12 28 6623 ?_
       refine px_ HT_ 13 29 14815 ?_
       refine px_ HT_ 15 31 47583 ?_
       refine px_ HT_ 16 32 113119 ?_
       refine px_ HT_ 17 33 244191 ?_
       refine px_ HT_ 21 37 2341343 ?_
       refine ta_ HT_ HW_ 5 (some 21) (bv_ 24 2341375) hHeld ?_ (hy := by rintro w' ⟨s0, s1, s2, s3, s4, s5, s6, s7⟩; go_simp; with_reducible rfl)
       refine ta_ HT_ HW_ 9 (some 25) (bv_ 24 2341887) hHeld ?_ (hy := by rintro w' ⟨s0, s1, s2, s3, s4, s5, s6, s7⟩; go_simp; with_reducible rfl)
       refine px_ HT_ 10 26 2342911 ?_
       refine ta_ HT_ HW_ 14 (some 30) (bv_ 24 2359295) hHeld ?_ (hy := by rintro w' ⟨s0, s1, s2, s3, s4, s5, s6, s7⟩; go_simp; with_reducible rfl)
       refine ta_ HT_ HW_ 18 (some 34) (bv_ 24 2621439) hHeld ?_ (hy := by rintro w' ⟨s0, s1, s2, s3, s4, s5, s6, s7⟩; go_simp; with_reducible rfl)
       refine px_ HT_ 19 35 3145727 ?_
       refine px_ HT_ 20 36 4194303 ?_
       refine px_ HT_ 22 38 8388607 ?_
       refine on_ HT_ 23 none (bv_ 24 16777215) (fun K hK => ?_)
       have hs19 : w18.cell? ⟨gb197, 1, none⟩ = some (.int .i64 x198001_2) := (blk_cell BK197.out 1).trans rfl
       have hfs19 := blk_frozen BK197.out 1
       have hns19_0 := NB194_197.out
       have hns19_1 := NB195_197.out
       have hns19_2 := NB196_197.out
       have hms19_0 := NB197_194.out
       have hms19_1 := NB197_195.out
       have hms19_2 := NB197_196.out
       refine skip_ (w1 := ?_) (by rfl) rfl ?_ ?_
       rotate_left
       ·go_simp
        rfl
       refine hK.out _ _ ⟨(cg_ NB194_197 (hHeld.1)), (cg_ NB194_197 (hHeld.2.1)), (cg_ NB194_197 (hHeld.2.2.1)), (cg_ NB194_197 (hHeld.2.2.2.1)), (cg_ NB195_197 (hHeld.2.2.2.2.1)), (cg_ NB195_197 (hHeld.2.2.2.2.2.1)), (cg_ NB195_197 (hHeld.2.2.2.2.2.2.1)), (cg_ NB195_197 (hHeld.2.2.2.2.2.2.2))⟩ (fun hHeld => ?_)
       clear hK K
       refine done_ (done_of HT_.out (by kernel_rfl)) ?_
       try go_wp2
       go_roundg k2
       case measure => have := HK1.out; have := HK2.out; omega
       case rel => exact ⟨(wrap64 (1 + 1)), (x198000_2), (wrap64 ((wrap64 (a0_0 * a1_1)) + (wrap64 (a0_1 * a1_3)))), (x198002_2), (x198003_2), en_, H', ⟨by have := HK1.out; have := HK2.out; omega⟩, fl_ BK194 NB194_197, fl_ BK195 NB195_197, fl_ BK196 NB196_197, bp_ BK197, bw_ HB⟩
      rw [if_neg c17] at H
      exact absurd H (by simp)
     rw [if_neg c13] at H
     have c13b0 : (x10_1 == 0) = false := beq_eq_false_iff_ne.mpr c13
     have c13b1 : (x10_1 != 0) = true := bne_iff_ne.mpr c13
     by_cases c20 : x10_1 = 1
     ·subst c20
      replace H := i1_ H
      by_cases c21 : x13_2 = 0
      ·subst c21
       replace H := i1_ H
       have H' := Aside0.mk H
       clear H
       try go_wp2
       replace BK194 := bd_ BK194
       replace BK195 := bd_ BK195
       replace BK196 := bd_ BK196
       replace BK197 := bd_ BK197
       replace HB := be_ HB
       refine start_ (n := 24) (S := fun w' => w'.cell? ⟨gb194, 0, none⟩ = some (.int .i64 a0_0) ∧ w'.cell? ⟨gb194, 1, none⟩ = some (.int .i64 a0_1) ∧ w'.cell? ⟨gb194, 2, none⟩ = some (.int .i64 a0_2) ∧ w'.cell? ⟨gb194, 3, none⟩ = some (.int .i64 a0_3) ∧ w'.cell? ⟨gb195, 0, none⟩ = some (.int .i64 a1_0) ∧ w'.cell? ⟨gb195, 1, none⟩ = some (.int .i64 a1_1) ∧ w'.cell? ⟨gb195, 2, none⟩ = some (.int .i64 a1_2) ∧ w'.cell? ⟨gb195, 3, none⟩ = some (.int .i64 a1_3)) (ds := []) (bv_ 24 0) (by kernel_rfl) rfl rfl ⟨cz_ BK194 0, cz_ BK194 1, cz_ BK194 2, cz_ BK194 3, cz_ BK195 0, cz_ BK195 1, cz_ BK195 2, cz_ BK195 3⟩ (fun hHeld => ?_); refine with_tabW impl_product.tab8 impl_product.bits8 (fun HT_ HW_ => ?_)
       generalize wr.drew = w22 at BK194 BK195 BK196 BK197 HB hHeld ⊢
       refine px_ HT_ 0 16 1 ?_
       refine px_ HT_ 1 17 3 ?_
       refine px_ HT_ 2 18 7 ?_
       refine px_ HT_ 3 19 15 ?_
       refine px_ HT_ 4 20 31 ?_
       refine px_ HT_ 6 22 95 ?_
       refine px_ HT_ 7 23 223 ?_
       refine px_ HT_ 8 24 479 ?_
       refine px_ HT_ 11 27 2527 ?_
       refine px_ HT_ 12 28 6623 ?_
       refine px_ HT_ 13 29 14815 ?_
       refine px_ HT_ 15 31 47583 ?_
       refine px_ HT_ 16 32 113119 ?_
       refine px_ HT_ 17 33 244191 ?_
       refine px_ HT_ 21 37 2341343 ?_
       refine ta_ HT_ HW_ 5 (some 21) (bv_ 24 2341375) hHeld ?_ (hy := by rintro w' ⟨s0, s1, s2, s3, s4, s5, s6, s7⟩; go_simp; with_reducible rfl)
       refine ta_ HT_ HW_ 9 (some 25) (bv_ 24 2341887) hHeld ?_ (hy := by rintro w' ⟨s0, s1, s2, s3, s4, s5, s6, s7⟩; go_simp; with_reducible rfl)
       refine px_ HT_ 10 26 2342911 ?_
       refine ta_ HT_ HW_ 14 (some 30) (bv_ 24 2359295) hHeld ?_ (hy := by rintro w' ⟨s0, s1, s2, s3, s4, s5, s6, s7⟩; go_simp; with_reducible rfl)
       refine ta_ HT_ HW_ 18 (some 34) (bv_ 24 2621439) hHeld ?_ (hy := by rintro w' ⟨s0, s1, s2, s3, s4, s5, s6, s7⟩; go_simp; with_reducible rfl)
       refine px_ HT_ 19 35 3145727 ?_
       refine px_ HT_ 20 36 4194303 ?_
       refine px_ HT_ 22 38 8388607 ?_
       refine on_ HT_ 23 none (bv_ 24 16777215) (fun K hK => ?_)
       have hs23 : w22.cell? ⟨gb197, 2, none⟩ = some (.int .i64 x198002_2) := (blk_cell BK197.out 2).trans rfl
       have hfs23 := blk_frozen BK197.out 2
       have hns23_0 := NB194_197.out
       have hns23_1 := NB195_197.out
       have hns23_2 := NB196_197.out
       have hms23_0 := NB197_194.out
       have hms23_1 := NB197_195.out
       have hms23_2 := NB197_196.out
       refine skip_ (w1 := ?_) (by rfl) rfl ?_ ?_
       rotate_left
       ·go_simp
        rfl
       refine hK.out _ _ ⟨(cg_ NB194_197 (hHeld.1)), (cg_ NB194_197 (hHeld.2.1)), (cg_ NB194_197 (hHeld.2.2.1)), (cg_ NB194_197 (hHeld.2.2.2.1)), (cg_ NB195_197 (hHeld.2.2.2.2.1)), (cg_ NB195_197 (hHeld.2.2.2.2.2.1)), (cg_ NB195_197 (hHeld.2.2.2.2.2.2.1)), (cg_ NB195_197 (hHeld.2.2.2.2.2.2.2))⟩ (fun hHeld => ?_)
       clear hK K
       refine done_ (done_of HT_.out (by kernel_rfl)) ?_
       try go_wp2
       go_roundg k2
       case measure => have := HK1.out; have := HK2.out; omega
       case rel => exact ⟨(wrap64 (0 + 1)), (x198000_2), (x198001_2), (wrap64 ((wrap64 (a0_2 * a1_0)) + (wrap64 (a0_3 * a1_2)))), (x198003_2), en_, H', ⟨by have := HK1.out; have := HK2.out; omega⟩, fl_ BK194 NB194_197, fl_ BK195 NB195_197, fl_ BK196 NB196_197, bp_ BK197, bw_ HB⟩
      rw [if_neg c21] at H
      have c21b0 : (x13_2 == 0) = false := beq_eq_false_iff_ne.mpr c21
      have c21b1 : (x13_2 != 0) = true := bne_iff_ne.mpr c21
      by_cases c24 : x13_2 = 1
      ·subst c24
       replace H := i1_ H
       have H' := Aside0.mk H
       clear H
       try go_wp2
       replace BK194 := bd_ BK194
       replace BK195 := bd_ BK195
       replace BK196 := bd_ BK196
       replace BK197 := bd_ BK197
       replace HB := be_ HB
       refine start_ (n := 24) (S := fun w' => w'.cell? ⟨gb194, 0, none⟩ = some (.int .i64 a0_0) ∧ w'.cell? ⟨gb194, 1, none⟩ = some (.int .i64 a0_1) ∧ w'.cell? ⟨gb194, 2, none⟩ = some (.int .i64 a0_2) ∧ w'.cell? ⟨gb194, 3, none⟩ = some (.int .i64 a0_3) ∧ w'.cell? ⟨gb195, 0, none⟩ = some (.int .i64 a1_0) ∧ w'.cell? ⟨gb195, 1, none⟩ = some (.int .i64 a1_1) ∧ w'.cell? ⟨gb195, 2, none⟩ = some (.int .i64 a1_2) ∧ w'.cell? ⟨gb195, 3, none⟩ = some (.int .i64 a1_3)) (ds := []) (bv_ 24 0) (by kernel_rfl) rfl rfl ⟨cz_ BK194 0, cz_ BK194 1, cz_ BK194 2, cz_ BK194 3, cz_ BK195 0, cz_ BK195 1, cz_ BK195 2, cz_ BK195 3⟩ (fun hHeld => ?_); refine with_tabW impl_product.tab8 impl_product.bits8 (fun HT_ HW_ => ?_)
       generalize wr.drew = w25 at BK194 BK195 BK196 BK197 HB hHeld ⊢
       refine px_ HT_ 0 16 1 ?_
       refine px_ HT_ 1 17 3 ?_
       refine px_ HT_ 2 18 7 ?_
       refine px_ HT_ 3 19 15 ?_
       refine px_ HT_ 4 20 31 ?_
       refine px_ HT_ 6 22 95 ?_
       refine px_ HT_ 7 23 223 ?_
       refine px_ HT_ 8 24 479 ?_
       refine px_ HT_ 11 27 2527 ?_
       refine px_ HT_ 12 28 6623 ?_
       refine px_ HT_ 13 29 14815 ?_
       refine px_ HT_ 15 31 47583 ?_
       refine px_ HT_ 16 32 113119 ?_
       refine px_ HT_ 17 33 244191 ?_
       refine px_ HT_ 21 37 2341343 ?_
       refine ta_ HT_ HW_ 5 (some 21) (bv_ 24 2341375) hHeld ?_ (hy := by rintro w' ⟨s0, s1, s2, s3, s4, s5, s6, s7⟩; go_simp; with_reducible rfl)
       refine ta_ HT_ HW_ 9 (some 25) (bv_ 24 2341887) hHeld ?_ (hy := by rintro w' ⟨s0, s1, s2, s3, s4, s5, s6, s7⟩; go_simp; with_reducible rfl)
       refine px_ HT_ 10 26 2342911 ?_
       refine ta_ HT_ HW_ 14 (some 30) (bv_ 24 2359295) hHeld ?_ (hy := by rintro w' ⟨s0, s1, s2, s3, s4, s5, s6, s7⟩; go_simp; with_reducible rfl)
       refine ta_ HT_ HW_ 18 (some 34) (bv_ 24 2621439) hHeld ?_ (hy := by rintro w' ⟨s0, s1, s2, s3, s4, s5, s6, s7⟩; go_simp; with_reducible rfl)
       refine px_ HT_ 19 35 3145727 ?_
       refine px_ HT_ 20 36 4194303 ?_
       refine px_ HT_ 22 38 8388607 ?_
       refine on_ HT_ 23 none (bv_ 24 16777215) (fun K hK => ?_)
       have hs26 : w25.cell? ⟨gb197, 3, none⟩ = some (.int .i64 x198003_2) := (blk_cell BK197.out 3).trans rfl
       have hfs26 := blk_frozen BK197.out 3
       have hns26_0 := NB194_197.out
       have hns26_1 := NB195_197.out
       have hns26_2 := NB196_197.out
       have hms26_0 := NB197_194.out
       have hms26_1 := NB197_195.out
       have hms26_2 := NB197_196.out
       refine skip_ (w1 := ?_) (by rfl) rfl ?_ ?_
       rotate_left
       ·go_simp
        rfl
       refine hK.out _ _ ⟨(cg_ NB194_197 (hHeld.1)), (cg_ NB194_197 (hHeld.2.1)), (cg_ NB194_197 (hHeld.2.2.1)), (cg_ NB194_197 (hHeld.2.2.2.1)), (cg_ NB195_197 (hHeld.2.2.2.2.1)), (cg_ NB195_197 (hHeld.2.2.2.2.2.1)), (cg_ NB195_197 (hHeld.2.2.2.2.2.2.1)), (cg_ NB195_197 (hHeld.2.2.2.2.2.2.2))⟩ (fun hHeld => ?_)
       clear hK K
       refine done_ (done_of HT_.out (by kernel_rfl)) ?_
       try go_wp2
       go_roundg k2
       case measure => have := HK1.out; have := HK2.out; omega
       case rel => exact ⟨(wrap64 (1 + 1)), (x198000_2), (x198001_2), (x198002_2), (wrap64 ((wrap64 (a0_2 * a1_1)) + (wrap64 (a0_3 * a1_3)))), en_, H', ⟨by have := HK1.out; have := HK2.out; omega⟩, fl_ BK194 NB194_197, fl_ BK195 NB195_197, fl_ BK196 NB196_197, bp_ BK197, bw_ HB⟩
      rw [if_neg c24] at H
      exact absurd H (by simp)
     rw [if_neg c20] at H
     exact absurd H (by simp)
    have H' := Aside0.mk H
    clear H
    go_wp2
    go_roundg k2
    case measure => have := HK1.out; have := HK2.out; omega
    case rel => exact ⟨(wrap64 (x10_1 + 1)), (x198000_2), (x198001_2), (x198002_2), (x198003_2), en_, H', ⟨by have := HK1.out; have := HK2.out; omega⟩, bl_ BK194, bl_ BK195, bl_ BK196, bl_ BK197, bw_ HB⟩
  replace H := oc_ H
  obtain ⟨⟨t198, t199, t200, t201, t202⟩, A27, H⟩ := H
  simp only [Option.some.injEq, Prod.mk.injEq] at H
  obtain ⟨rfl, rfl, rfl, rfl, rfl⟩ := H
  have hnb28 := NB197_194.out
  have hnc28 := NB194_197.out
  have hnb29 := NB197_195.out
  have hnc29 := NB195_197.out
  have hnb30 := NB197_196.out
  have hnc30 := NB196_197.out
  obtain ⟨hcz31_0, hcz31_1, hcz31_2, hcz31_3, hfz31_0, hfz31_1, hfz31_2, hfz31_3⟩ := ch4_ BK197
  go_wp2_with (first | ((refine gc_ 40 ?_); refine ge_ 42 Try.func40 #[.agg #[.int .i64 x198000_1, .int .i64 x198001_1, .int .i64 x198002_1, .int .i64 x198003_1]] ?_; (with_reducible refine (impl_reduced.calls k1 x198000_1 x198001_1 x198002_1 x198003_1 t198 t199 t200 t201 t202 _ A27.out).mono ?_); rintro e w32 ⟨rfl, hb⟩; refine ⟨_, rfl, ?_⟩; replace BK194 := bb_ BK194 hb; replace BK195 := bb_ BK195 hb; replace BK196 := bb_ BK196 hb; replace BK197 := bb_ BK197 hb; replace HB := bt_ HB hb; (try clear hb); have hnb33 := NB196_194.out; have hnc33 := NB194_196.out; have hnb34 := NB196_195.out; have hnc34 := NB195_196.out; obtain ⟨hcz35_0, hcz35_1, hcz35_2, hcz35_3, hfz35_0, hfz35_1, hfz35_2, hfz35_3⟩ := ch4_ BK196))
  refine bodyPost_ret (results_ct rfl _ _ gb196 26 #[.int .i64 t198, .int .i64 t199, .int .i64 t200, .int .i64 t201] (0, 0) _ rfl (bp_ BK196).out Try.underlying26 rfl (by kernel_rfl)) rfl ?_
  exact ⟨es_, (bw_ HB).out⟩
end Go.Proofs.Yteniblbnmcfmjaa.QM
