import Derived.Test.YtgoeelhiffbjlaaQTx10
import Derived.Test.YtgoeelhiffbjlaaQTx45
namespace Go.Proofs.Ytgoeelhiffbjlaa.QT
open Go.RowKit Go.Proofs.YtgoeelhiffbjlaaW.PrintWords Go.Proofs.YtgoeelhiffbjlaaW.PrintLast Go.Proofs.YtgoeelhiffbjlaaW.PrintMore
attribute [local go_sem] isSome_setCell max2_int min2_int max_two min_two max_three min_three max_four min_four
set_option linter.unusedVariables false
set_option linter.unusedSimpArgs false

/-! ### impl_product: function 92 -/
mutual
def impl_product.l0 : Nat → Int → Int → Int → Int → Int → Int → Int → Int → Int → Int → Int → Int → Int → Option (Int × Int × Int × Int × Bool)
 | 0, _, _, _, _, _, _, _, _, _, _, _, _, _ => none
 | k + 1, x10, x277000, x277001, x277002, x277003, x278000, x278001, x278002, x278003, x280000, x280001, x280002, x280003 => if x10 < 2 then (impl_product.l1 k x10 x10 0 x277000 x277001 x277002 x277003 x278000 x278001 x278002 x278003 x280000 x280001 x280002 x280003) else ((impl_reduced.f k x280000 x280001 x280002 x280003).bind fun bt280 => (some (bt280.1, bt280.2.1, bt280.2.2.1, bt280.2.2.2.1, bt280.2.2.2.2)))
def impl_product.l1 : Nat → Int → Int → Int → Int → Int → Int → Int → Int → Int → Int → Int → Int → Int → Int → Int → Option (Int × Int × Int × Int × Bool)
 | 0, _, _, _, _, _, _, _, _, _, _, _, _, _, _, _ => none
 | k + 1, x7, x10, x13, x277000, x277001, x277002, x277003, x278000, x278001, x278002, x278003, x280000, x280001, x280002, x280003 => if x13 < 2 then (if x7 = 0 then (if x13 = 0 then (impl_product.l1 k x7 x10 (wrap64 (x13 + 1)) x277000 x277001 x277002 x277003 x278000 x278001 x278002 x278003 (wrap64 ((wrap64 (x277000 * x278000)) + (wrap64 (x277001 * x278002)))) x280001 x280002 x280003) else (if x13 = 1 then (impl_product.l1 k x7 x10 (wrap64 (x13 + 1)) x277000 x277001 x277002 x277003 x278000 x278001 x278002 x278003 x280000 (wrap64 ((wrap64 (x277000 * x278001)) + (wrap64 (x277001 * x278003)))) x280002 x280003) else (none))) else (if x7 = 1 then (if x13 = 0 then (impl_product.l1 k x7 x10 (wrap64 (x13 + 1)) x277000 x277001 x277002 x277003 x278000 x278001 x278002 x278003 x280000 x280001 (wrap64 ((wrap64 (x277002 * x278000)) + (wrap64 (x277003 * x278002)))) x280003) else (if x13 = 1 then (impl_product.l1 k x7 x10 (wrap64 (x13 + 1)) x277000 x277001 x277002 x277003 x278000 x278001 x278002 x278003 x280000 x280001 x280002 (wrap64 ((wrap64 (x277002 * x278001)) + (wrap64 (x277003 * x278003))))) else (none))) else (none))) else (impl_product.l0 k (wrap64 (x10 + 1)) x277000 x277001 x277002 x277003 x278000 x278001 x278002 x278003 x280000 x280001 x280002 x280003)
end
def impl_product.f (k : Nat) (a0_0 : Int) (a0_1 : Int) (a0_2 : Int) (a0_3 : Int) (a1_0 : Int) (a1_1 : Int) (a1_2 : Int) (a1_3 : Int) : Option (Int × Int × Int × Int × Bool) := impl_product.l0 k 0 a0_0 a0_1 a0_2 a0_3 a1_0 a1_1 a1_2 a1_3 0 0 0 0
def impl_product.T8 : Bool × List (List Nat × List Nat) := (true, [([], []), ([], []), ([], []), ([2], [2]), ([3], [3]), ([4], [4]), ([], []), ([], []), ([7, 6], [6, 7]), ([8], [8]), ([5, 9], [5, 9]), ([], []), ([11], [11]), ([12], [12]), ([13], [13]), ([], []), ([], []), ([16, 15], [15, 16]), ([17], [17]), ([14, 18], [14, 18]), ([10, 19], [10, 19]), ([0], [0]), ([21, 1, 0, 1, 2, 3, 4, 5, 6, 7, 8, 9, 10, 11, 12, 13, 14, 15, 16, 17, 18, 19, 20], [1, 21]), ([22, 20, 0, 1, 2, 3, 4, 5, 6, 7, 8, 9, 10, 11, 12, 13, 14, 15, 16, 17, 18, 19, 20], [20, 22])])
def impl_product.B8 : List Nat := [0, 0, 0, 4, 12, 28, 0, 0, 192, 448, 1020, 0, 2048, 6144, 14336, 0, 0, 98304, 229376, 522240, 1048572, 1, 4194303, 8388607]
theorem impl_product.tab8 : rtab .any (opsOf Try.f92 8) = impl_product.T8 := by kernel_rfl
theorem impl_product.bits8 : waitsOk impl_product.T8.2 impl_product.B8 = true := by kernel_rfl
set_option maxHeartbeats 8000000 in
set_option maxRecDepth 100000 in
theorem impl_product.calls (k : Nat) (a0_0 : Int) (a0_1 : Int) (a0_2 : Int) (a0_3 : Int) (a1_0 : Int) (a1_1 : Int) (a1_2 : Int) (a1_3 : Int) (r1 : Int) (r2 : Int) (r3 : Int) (r4 : Int) (r5 : Bool) (w : World) (h : impl_product.f k a0_0 a0_1 a0_2 a0_3 a1_0 a1_1 a1_2 a1_3 = some (r1, r2, r3, r4, r5)) :
  Calls Try.prog 92 #[.agg #[.int .i64 a0_0, .int .i64 a0_1, .int .i64 a0_2, .int .i64 a0_3], .agg #[.int .i64 a1_0, .int .i64 a1_1, .int .i64 a1_2, .int .i64 a1_3]] w fun e w' => e = .returned (.tuple #[.agg #[.int .i64 r1, .int .i64 r2, .int .i64 r3, .int .i64 r4], .bool r5]) ∧ Below w.heap.size w w' := by
 have hu46 := Try.underlying46
 have hu44 := Try.underlying44
 have HB := Aside0.mk (Below.refl w.heap.size w)
 have H : (impl_product.l0 k 0 a0_0 a0_1 a0_2 a0_3 a1_0 a1_1 a1_2 a1_3 0 0 0 0) = some (r1, r2, r3, r4, r5) := h
 clear h
 have H' := Aside0.mk H
 clear H
 go_enter Try.func92, Try.ntmps92
 go_wp2_with (first | ((refine gd_ 2 ?_); refine bx_ 2 #[.int .i64 a0_0, .int .i64 a0_1, .int .i64 a0_2, .int .i64 a0_3] 46 ?_; intro gb276 hg w3 BK276 hb; have GW276 := bs_ HB hg; have GE276 := bs_ HB hg; replace HB := bt_ HB hb; clear hb hg) | ((refine gd_ 3 ?_); refine bx_ 3 #[.int .i64 a1_0, .int .i64 a1_1, .int .i64 a1_2, .int .i64 a1_3] 46 ?_; intro gb277 hg w4 BK277 hb; have GW277 := bs_ HB hg; have GE277 := bs_ HB hg; have NB276_277 := bm_ BK276 hg; have NB277_276 := bn_ BK276 hg; replace BK276 := bb_ BK276 hb; replace HB := bt_ HB hb; clear hb hg) | ((refine gd_ 4 ?_); refine bx_ 4 #[.int .i64 0, .int .i64 0, .int .i64 0, .int .i64 0] 46 ?_; intro gb278 hg w5 BK278 hb; have GW278 := bs_ HB hg; have GE278 := bs_ HB hg; have NB276_278 := bm_ BK276 hg; have NB278_276 := bn_ BK276 hg; have NB277_278 := bm_ BK277 hg; have NB278_277 := bn_ BK277 hg; replace BK276 := bb_ BK276 hb; replace BK277 := bb_ BK277 hb; replace HB := bt_ HB hb; clear hb hg) | ((refine gd_ 6 ?_); refine bx_ 6 #[.int .i64 0, .int .i64 0, .int .i64 0, .int .i64 0] 46 ?_; intro gb279 hg w6 BK279 hb; have GW279 := bs_ HB hg; have GE279 := bs_ HB hg; have NB276_279 := bm_ BK276 hg; have NB279_276 := bn_ BK276 hg; have NB277_279 := bm_ BK277 hg; have NB279_277 := bn_ BK277 hg; have NB278_279 := bm_ BK278 hg; have NB279_278 := bn_ BK278 hg; replace BK276 := bb_ BK276 hb; replace BK277 := bb_ BK277 hb; replace BK278 := bb_ BK278 hb; replace HB := bt_ HB hb; clear hb hg; have hnb7 := NB279_276.out; have hnc7 := NB276_279.out; have hnb8 := NB279_277.out; have hnc8 := NB277_279.out; have hnb9 := NB279_278.out; have hnc9 := NB278_279.out; obtain ⟨hcz10_0, hcz10_1, hcz10_2, hcz10_3, hfz10_0, hfz10_1, hfz10_2, hfz10_3⟩ := ch4_ BK279))
 go_loopg [10] k (fun kq v10 w' => ∃ (x10_1 : Int) (x280000_1 : Int) (x280001_1 : Int) (x280002_1 : Int) (x280003_1 : Int), v10 = .int .i64 x10_1 ∧ Aside0 (impl_product.l0 kq x10_1 a0_0 a0_1 a0_2 a0_3 a1_0 a1_1 a1_2 a1_3 x280000_1 x280001_1 x280002_1 x280003_1 = some (r1, r2, r3, r4, r5)) ∧ Aside0 (kq ≤ k) ∧ Aside0 (w'.heap[gb276]? = some (.cells #[.int .i64 a0_0, .int .i64 a0_1, .int .i64 a0_2, .int .i64 a0_3] 46 (0, 0))) ∧ Aside0 (w'.heap[gb277]? = some (.cells #[.int .i64 a1_0, .int .i64 a1_1, .int .i64 a1_2, .int .i64 a1_3] 46 (0, 0))) ∧ Aside0 (w'.heap[gb278]? = some (.cells #[.int .i64 0, .int .i64 0, .int .i64 0, .int .i64 0] 46 (0, 0))) ∧ Aside0 (w'.heap[gb279]? = some (.cells #[.int .i64 x280000_1, .int .i64 x280001_1, .int .i64 x280002_1, .int .i64 x280003_1] 46 (0, 0))) ∧ Aside0 (Below w.heap.size w w'))
 case atStart => exact ⟨(0), (0), (0), (0), (0), en_, H', ⟨Nat.le_refl _⟩, fl_ BK276 NB276_279, fl_ BK277 NB277_279, fl_ BK278 NB278_279, bp_ BK279, bw_ HB⟩
 case round =>
  clear H'
  try clear p2
  try clear c7
  try clear c8
  try clear c9
  try clear hcz10_0 hcz10_1 hcz10_2 hcz10_3
  try clear hfz10_0 hfz10_1 hfz10_2 hfz10_3
  obtain ⟨x10_1, x280000_1, x280001_1, x280002_1, x280003_1, rfl, HA, HK1, BK276, BK277, BK278, BK279, HB⟩ := hrel
  cases gk with
  | zero => exact absurd HA.out (by simp [impl_product.l0])
  | succ k1 =>
   have H := HA.out
   clear HA
   simp only [impl_product.l0] at H
   by_cases c11 : x10_1 < 2
   ·rw [if_pos c11] at H
    have c11b0 : decide (x10_1 < 2) = true := decide_eq_true c11
    clear c11
    have H' := Aside0.mk H
    clear H
    go_wp2
    go_loopg [13] k1 (fun kq v13 w' => ∃ (x13_2 : Int) (x280000_2 : Int) (x280001_2 : Int) (x280002_2 : Int) (x280003_2 : Int), v13 = .int .i64 x13_2 ∧ Aside0 (impl_product.l1 kq x10_1 x10_1 x13_2 a0_0 a0_1 a0_2 a0_3 a1_0 a1_1 a1_2 a1_3 x280000_2 x280001_2 x280002_2 x280003_2 = some (r1, r2, r3, r4, r5)) ∧ Aside0 (kq ≤ k1) ∧ Aside0 (w'.heap[gb276]? = some (.cells #[.int .i64 a0_0, .int .i64 a0_1, .int .i64 a0_2, .int .i64 a0_3] 46 (0, 0))) ∧ Aside0 (w'.heap[gb277]? = some (.cells #[.int .i64 a1_0, .int .i64 a1_1, .int .i64 a1_2, .int .i64 a1_3] 46 (0, 0))) ∧ Aside0 (w'.heap[gb278]? = some (.cells #[.int .i64 0, .int .i64 0, .int .i64 0, .int .i64 0] 46 (0, 0))) ∧ Aside0 (w'.heap[gb279]? = some (.cells #[.int .i64 x280000_2, .int .i64 x280001_2, .int .i64 x280002_2, .int .i64 x280003_2] 46 (0, 0))) ∧ Aside0 (Below w.heap.size w w'))
    case atStart => exact ⟨(0), (x280000_1), (x280001_1), (x280002_1), (x280003_1), en_, H', ⟨Nat.le_refl _⟩, bl_ BK276, bl_ BK277, bl_ BK278, bl_ BK279, bw_ HB⟩
    case round =>
     clear H'
     try clear c1
     try clear p2
     try clear c7
     try clear c8
     try clear c9
     try clear c11
     try clear c11b0
     try clear hcz10_0 hcz10_1 hcz10_2 hcz10_3
     try clear hfz10_0 hfz10_1 hfz10_2 hfz10_3
     try clear p2
     obtain ⟨x13_2, x280000_2, x280001_2, x280002_2, x280003_2, rfl, HA, HK2, BK276, BK277, BK278, BK279, HB⟩ := hrel
     cases gk with
     | zero => exact absurd HA.out (by simp [impl_product.l1])
     | succ k2 =>
      have H := HA.out
      clear HA
      simp only [impl_product.l1] at H
      by_cases c12 : x13_2 < 2
      ·rw [if_pos c12] at H
       have c12b0 : decide (x13_2 < 2) = true := decide_eq_true c12
       clear c12
       by_cases c13 : x10_1 = 0
       ·subst c13
        have H1 : (if x13_2 = 0 then (impl_product.l1 k2 0 0 (wrap64 (x13_2 + 1)) a0_0 a0_1 a0_2 a0_3 a1_0 a1_1 a1_2 a1_3 (wrap64 ((wrap64 (a0_0 * a1_0)) + (wrap64 (a0_1 * a1_2)))) x280001_2 x280002_2 x280003_2) else (if x13_2 = 1 then (impl_product.l1 k2 0 0 (wrap64 (x13_2 + 1)) a0_0 a0_1 a0_2 a0_3 a1_0 a1_1 a1_2 a1_3 x280000_2 (wrap64 ((wrap64 (a0_0 * a1_1)) + (wrap64 (a0_1 * a1_3)))) x280002_2 x280003_2) else (none))) = some (r1, r2, r3, r4, r5) := by rw [if_pos rfl] at H; exact H
        clear H
        have H := H1
        clear H1
        by_cases c14 : x13_2 = 0
        ·subst c14
         have H1 : (impl_product.l1 k2 0 0 (wrap64 (0 + 1)) a0_0 a0_1 a0_2 a0_3 a1_0 a1_1 a1_2 a1_3 (wrap64 ((wrap64 (a0_0 * a1_0)) + (wrap64 (a0_1 * a1_2)))) x280001_2 x280002_2 x280003_2) = some (r1, r2, r3, r4, r5) := by rw [if_pos rfl] at H; exact H
         clear H
         have H := H1
         clear H1
         have H' := Aside0.mk H
         clear H
         try go_wp2
         replace BK276 := Aside0.mk (blk_drew BK276.out)
         replace BK277 := Aside0.mk (blk_drew BK277.out)
         replace BK278 := Aside0.mk (blk_drew BK278.out)
         replace BK279 := Aside0.mk (blk_drew BK279.out)
         replace HB := Aside0.mk (below_drew1 HB.out)
         refine start_ (n := 24) (S := fun w' => w'.cell? ⟨gb276, 0, none⟩ = some (.int .i64 a0_0) ∧ w'.cell? ⟨gb276, 1, none⟩ = some (.int .i64 a0_1) ∧ w'.cell? ⟨gb276, 2, none⟩ = some (.int .i64 a0_2) ∧ w'.cell? ⟨gb276, 3, none⟩ = some (.int .i64 a0_3) ∧ w'.cell? ⟨gb277, 0, none⟩ = some (.int .i64 a1_0) ∧ w'.cell? ⟨gb277, 1, none⟩ = some (.int .i64 a1_1) ∧ w'.cell? ⟨gb277, 2, none⟩ = some (.int .i64 a1_2) ∧ w'.cell? ⟨gb277, 3, none⟩ = some (.int .i64 a1_3)) (ds := []) (bv_ 24 0) (by kernel_rfl) rfl rfl ⟨cz_ BK276 0, cz_ BK276 1, cz_ BK276 2, cz_ BK276 3, cz_ BK277 0, cz_ BK277 1, cz_ BK277 2, cz_ BK277 3⟩ (fun hHeld => ?_); refine with_tabW impl_product.tab8 impl_product.bits8 (fun HT_ HW_ => ?_)
         generalize wr.drew = w15 at BK276 BK277 BK278 BK279 HB hHeld ⊢
         refine px_ HT_ 0 16 1 ?_
         refine px_ HT_ 1 17 3 ?_
         refine px_ HT_ 2 18 7 ?_
         refine px_ HT_ 3 19 15 ?_
         refine px_ HT_ 4 20 31 ?_
         refine px_ HT_ 6 22 95 ?_
         refine px_ HT_ 7 23 223 ?_
         refine px_ HT_ 8 24 479 ?_
         refine px_ HT_ 11 27 2527 ?_
         refine px_ HT_ 12 28 6623 ?_
         refine px_ HT_ 13 29 14815 ?_
         refine px_ HT_ 15 31 47583 ?_
         refine px_ HT_ 16 32 113119 ?_
         refine px_ HT_ 17 33 244191 ?_
         refine px_ HT_ 21 37 2341343 ?_
         refine ta_ HT_ HW_ 5 (some 21) (bv_ 24 2341375) hHeld ?_ (hy := by rintro w' ⟨s0, s1, s2, s3, s4, s5, s6, s7⟩; go_simp; with_reducible rfl)
         refine ta_ HT_ HW_ 9 (some 25) (bv_ 24 2341887) hHeld ?_ (hy := by rintro w' ⟨s0, s1, s2, s3, s4, s5, s6, s7⟩; go_simp; with_reducible rfl)
         refine px_ HT_ 10 26 2342911 ?_
         refine ta_ HT_ HW_ 14 (some 30) (bv_ 24 2359295) hHeld ?_ (hy := by rintro w' ⟨s0, s1, s2, s3, s4, s5, s6, s7⟩; go_simp; with_reducible rfl)
         refine ta_ HT_ HW_ 18 (some 34) (bv_ 24 2621439) hHeld ?_ (hy := by rintro w' ⟨s0, s1, s2, s3, s4, s5, s6, s7⟩; go_simp; with_reducible rfl)
         refine px_ HT_ 19 35 3145727 ?_
         refine px_ HT_ 20 36 4194303 ?_
         refine px_ HT_ 22 38 8388607 ?_
         refine on_ HT_ 23 none (bv_ 24 16777215) (fun K hK => ?_)
         have hs16 : w15.cell? ⟨gb279, 0, none⟩ = some (.int .i64 x280000_2) := (blk_cell BK279.out 0).trans rfl
         have hfs16 := blk_frozen BK279.out 0
         have hns16_0 := NB276_279.out
         have hns16_1 := NB277_279.out
         have hns16_2 := NB278_279.out
         have hms16_0 := NB279_276.out
         have hms16_1 := NB279_277.out
         have hms16_2 := NB279_278.out
         refine skip_ (w1 := ?_) (by rfl) rfl ?_ ?_
         rotate_left
         ·go_simp
          rfl
         refine hK.out _ _ ⟨(cg_ NB276_279 (hHeld.1)), (cg_ NB276_279 (hHeld.2.1)), (cg_ NB276_279 (hHeld.2.2.1)), (cg_ NB276_279 (hHeld.2.2.2.1)), (cg_ NB277_279 (hHeld.2.2.2.2.1)), (cg_ NB277_279 (hHeld.2.2.2.2.2.1)), (cg_ NB277_279 (hHeld.2.2.2.2.2.2.1)), (cg_ NB277_279 (hHeld.2.2.2.2.2.2.2))⟩ (fun hHeld => ?_)
         clear hK K
         refine done_ (done_of HT_.out (by kernel_rfl)) ?_
         try go_wp2
         go_roundg k2
         case measure => have := HK1.out; have := HK2.out; omega
         case rel => exact ⟨(wrap64 (0 + 1)), (wrap64 ((wrap64 (a0_0 * a1_0)) + (wrap64 (a0_1 * a1_2)))), (x280001_2), (x280002_2), (x280003_2), en_, H', ⟨by have := HK1.out; have := HK2.out; omega⟩, fl_ BK276 NB276_279, fl_ BK277 NB277_279, fl_ BK278 NB278_279, bp_ BK279, bw_ HB⟩
        ·rw [if_neg c14] at H
         have c14b0 : (x13_2 == 0) = false := beq_eq_false_iff_ne.mpr c14
         have c14b1 : (x13_2 != 0) = true := bne_iff_ne.mpr c14
         by_cases c17 : x13_2 = 1
         ·subst c17
          have H1 : (impl_product.l1 k2 0 0 (wrap64 (1 + 1)) a0_0 a0_1 a0_2 a0_3 a1_0 a1_1 a1_2 a1_3 x280000_2 (wrap64 ((wrap64 (a0_0 * a1_1)) + (wrap64 (a0_1 * a1_3)))) x280002_2 x280003_2) = some (r1, r2, r3, r4, r5) := by rw [if_pos rfl] at H; exact H
          clear H
          have H := H1
          clear H1
          have H' := Aside0.mk H
          clear H
          try go_wp2
          replace BK276 := Aside0.mk (blk_drew BK276.out)
          replace BK277 := Aside0.mk (blk_drew BK277.out)
          replace BK278 := Aside0.mk (blk_drew BK278.out)
          replace BK279 := Aside0.mk (blk_drew BK279.out)
          replace HB := Aside0.mk (below_drew1 HB.out)
          refine start_ (n := 24) (S := fun w' => w'.cell? ⟨gb276, 0, none⟩ = some (.int .i64 a0_0) ∧ w'.cell? ⟨gb276, 1, none⟩ = some (.int .i64 a0_1) ∧ w'.cell? ⟨gb276, 2, none⟩ = some (.int .i64 a0_2) ∧ w'.cell? ⟨gb276, 3, none⟩ = some (.int .i64 a0_3) ∧ w'.cell? ⟨gb277, 0, none⟩ = some (.int .i64 a1_0) ∧ w'.cell? ⟨gb277, 1, none⟩ = some (.int .i64 a1_1) ∧ w'.cell? ⟨gb277, 2, none⟩ = some (.int .i64 a1_2) ∧ w'.cell? ⟨gb277, 3, none⟩ = some (.int .i64 a1_3)) (ds := []) (bv_ 24 0) (by kernel_rfl) rfl rfl ⟨cz_ BK276 0, cz_ BK276 1, cz_ BK276 2, cz_ BK276 3, cz_ BK277 0, cz_ BK277 1, cz_ BK277 2, cz_ BK277 3⟩ (fun hHeld => ?_); refine with_tabW impl_product.tab8 impl_product.bits8 (fun HT_ HW_ => ?_)
          generalize wr.drew = w18 at BK276 BK277 BK278 BK279 HB hHeld ⊢
          refine px_ HT_ 0 16 1 ?_
          refine px_ HT_ 1 17 3 ?_
          refine px_ HT_ 2 18 7 ?_
          refine px_ HT_ 3 19 15 ?_
          refine px_ HT_ 4 20 31 ?_
          refine px_ HT_ 6 22 95 ?_
          refine px_ HT_ 7 23 223 ?_
          refine px_ HT_ 8 24 479 ?_
          refine px_ HT_ 11 27 2527 ?_
          refine px_ HT_ 12 28 6623 ?_
          refine px_ HT_ 13 29 14815 ?_
          refine px_ HT_ 15 31 47583 ?_
          refine px_ HT_ 16 32 113119 ?_
          refine px_ HT_ 17 33 244191 ?_
          refine px_ HT_ 21 37 2341343 ?_
          refine ta_ HT_ HW_ 5 (some 21) (bv_ 24 2341375) hHeld ?_ (hy := by rintro w' ⟨s0, s1, s2, s3, s4, s5, s6, s7⟩; go_simp; with_reducible rfl)
          refine ta_ HT_ HW_ 9 (some 25) (bv_ 24 2341887) hHeld ?_ (hy := by rintro w' ⟨s0, s1, s2, s3, s4, s5, s6, s7⟩; go_simp; with_reducible rfl)
          refine px_ HT_ 10 26 2342911 ?_
          refine ta_ HT_ HW_ 14 (some 30) (bv_ 24 2359295) hHeld ?_ (hy := by rintro w' ⟨s0, s1, s2, s3, s4, s5, s6, s7⟩; go_simp; with_reducible rfl)
          refine ta_ HT_ HW_ 18 (some 34) (bv_ 24 2621439) hHeld ?_ (hy := by rintro w' ⟨s0, s1, s2, s3, s4, s5, s6, s7⟩; go_simp; with_reducible rfl)
          refine px_ HT_ 19 35 3145727 ?_
          refine px_ HT_ 20 36 4194303 ?_
          refine px_ HT_ 22 38 8388607 ?_
          refine on_ HT_ 23 none (bv_ 24 16777215) (fun K hK => ?_)
          have hs19 : w18.cell? ⟨gb279, 1, none⟩ = some (.int .i64 x280001_2) := (blk_cell BK279.out 1).trans rfl
          have hfs19 := blk_frozen BK279.out 1
          have hns19_0 := NB276_279.out
          have hns19_1 := NB277_279.out
          have hns19_2 := NB278_279.out
          have hms19_0 := NB279_276.out
          have hms19_1 := NB279_277.out
          have hms19_2 := NB279_278.out
          refine skip_ (w1 := ?_) (by rfl) rfl ?_ ?_
          rotate_left
          ·go_simp
           rfl
          refine hK.out _ _ ⟨(cg_ NB276_279 (hHeld.1)), (cg_ NB276_279 (hHeld.2.1)), (cg_ NB276_279 (hHeld.2.2.1)), (cg_ NB276_279 (hHeld.2.2.2.1)), (cg_ NB277_279 (hHeld.2.2.2.2.1)), (cg_ NB277_279 (hHeld.2.2.2.2.2.1)), (cg_ NB277_279 (hHeld.2.2.2.2.2.2.1)), (cg_ NB277_279 (hHeld.2.2.2.2.2.2.2))⟩ (fun hHeld => ?_)
          clear hK K
          refine done_ (done_of HT_.out (by kernel_rfl)) ?_
          try go_wp2
          go_roundg k2
          case measure => have := HK1.out; have := HK2.out; omega
          case rel => exact ⟨(wrap64 (1 + 1)), (x280000_2), (wrap64 ((wrap64 (a0_0 * a1_1)) + (wrap64 (a0_1 * a1_3)))), (x280002_2), (x280003_2), en_, H', ⟨by have := HK1.out; have := HK2.out; omega⟩, fl_ BK276 NB276_279, fl_ BK277 NB277_279, fl_ BK278 NB278_279, bp_ BK279, bw_ HB⟩
         ·rw [if_neg c17] at H
          exact absurd H (by simp)
       ·rw [if_neg c13] at H
        have c13b0 : (x10_1 == 0) = false := beq_eq_false_iff_ne.mpr c13
        have c13b1 : (x10_1 != 0) = true := bne_iff_ne.mpr c13
        by_cases c20 : x10_1 = 1
        ·subst c20
         have H1 : (if x13_2 = 0 then (impl_product.l1 k2 1 1 (wrap64 (x13_2 + 1)) a0_0 a0_1 a0_2 a0_3 a1_0 a1_1 a1_2 a1_3 x280000_2 x280001_2 (wrap64 ((wrap64 (a0_2 * a1_0)) + (wrap64 (a0_3 * a1_2)))) x280003_2) else (if x13_2 = 1 then (impl_product.l1 k2 1 1 (wrap64 (x13_2 + 1)) a0_0 a0_1 a0_2 a0_3 a1_0 a1_1 a1_2 a1_3 x280000_2 x280001_2 x280002_2 (wrap64 ((wrap64 (a0_2 * a1_1)) + (wrap64 (a0_3 * a1_3))))) else (none))) = some (r1, r2, r3, r4, r5) := by rw [if_pos rfl] at H; exact H
         clear H
         have H := H1
         clear H1
         by_cases c21 : x13_2 = 0
         ·subst c21
          have H1 : (impl_product.l1 k2 1 1 (wrap64 (0 + 1)) a0_0 a0_1 a0_2 a0_3 a1_0 a1_1 a1_2 a1_3 x280000_2 x280001_2 (wrap64 ((wrap64 (a0_2 * a1_0)) + (wrap64 (a0_3 * a1_2)))) x280003_2) = some (r1, r2, r3, r4, r5) := by rw [if_pos rfl] at H; exact H
          clear H
          have H := H1
          clear H1
          have H' := Aside0.mk H
          clear H
          try go_wp2
          replace BK276 := Aside0.mk (blk_drew BK276.out)
          replace BK277 := Aside0.mk (blk_drew BK277.out)
          replace BK278 := Aside0.mk (blk_drew BK278.out)
          replace BK279 := Aside0.mk (blk_drew BK279.out)
          replace HB := Aside0.mk (below_drew1 HB.out)
          refine start_ (n := 24) (S := fun w' => w'.cell? ⟨gb276, 0, none⟩ = some (.int .i64 a0_0) ∧ w'.cell? ⟨gb276, 1, none⟩ = some (.int .i64 a0_1) ∧ w'.cell? ⟨gb276, 2, none⟩ = some (.int .i64 a0_2) ∧ w'.cell? ⟨gb276, 3, none⟩ = some (.int .i64 a0_3) ∧ w'.cell? ⟨gb277, 0, none⟩ = some (.int .i64 a1_0) ∧ w'.cell? ⟨gb277, 1, none⟩ = some (.int .i64 a1_1) ∧ w'.cell? ⟨gb277, 2, none⟩ = some (.int .i64 a1_2) ∧ w'.cell? ⟨gb277, 3, none⟩ = some (.int .i64 a1_3)) (ds := []) (bv_ 24 0) (by kernel_rfl) rfl rfl ⟨cz_ BK276 0, cz_ BK276 1, cz_ BK276 2, cz_ BK276 3, cz_ BK277 0, cz_ BK277 1, cz_ BK277 2, cz_ BK277 3⟩ (fun hHeld => ?_); refine with_tabW impl_product.tab8 impl_product.bits8 (fun HT_ HW_ => ?_)
          generalize wr.drew = w22 at BK276 BK277 BK278 BK279 HB hHeld ⊢
          refine px_ HT_ 0 16 1 ?_
          refine px_ HT_ 1 17 3 ?_
          refine px_ HT_ 2 18 7 ?_
          refine px_ HT_ 3 19 15 ?_
          refine px_ HT_ 4 20 31 ?_
          refine px_ HT_ 6 22 95 ?_
          refine px_ HT_ 7 23 223 ?_
          refine px_ HT_ 8 24 479 ?_
          refine px_ HT_ 11 27 2527 ?_
          refine px_ HT_ 12 28 6623 ?_
          refine px_ HT_ 13 29 14815 ?_
          refine px_ HT_ 15 31 47583 ?_
          refine px_ HT_ 16 32 113119 ?_
          refine px_ HT_ 17 33 244191 ?_
          refine px_ HT_ 21 37 2341343 ?_
          refine ta_ HT_ HW_ 5 (some 21) (bv_ 24 2341375) hHeld ?_ (hy := by rintro w' ⟨s0, s1, s2, s3, s4, s5, s6, s7⟩; go_simp; with_reducible rfl)
          refine ta_ HT_ HW_ 9 (some 25) (bv_ 24 2341887) hHeld ?_ (hy := by rintro w' ⟨s0, s1, s2, s3, s4, s5, s6, s7⟩; go_simp; with_reducible rfl)
          refine px_ HT_ 10 26 2342911 ?_
          refine ta_ HT_ HW_ 14 (some 30) (bv_ 24 2359295) hHeld ?_ (hy := by rintro w' ⟨s0, s1, s2, s3, s4, s5, s6, s7⟩; go_simp; with_reducible rfl)
          refine ta_ HT_ HW_ 18 (some 34) (bv_ 24 2621439) hHeld ?_ (hy := by rintro w' ⟨s0, s1, s2, s3, s4, s5, s6, s7⟩; go_simp; with_reducible rfl)
          refine px_ HT_ 19 35 3145727 ?_
          refine px_ HT_ 20 36 4194303 ?_
          refine px_ HT_ 22 38 8388607 ?_
          refine on_ HT_ 23 none (bv_ 24 16777215) (fun K hK => ?_)
          have hs23 : w22.cell? ⟨gb279, 2, none⟩ = some (.int .i64 x280002_2) := (blk_cell BK279.out 2).trans rfl
          have hfs23 := blk_frozen BK279.out 2
          have hns23_0 := NB276_279.out
          have hns23_1 := NB277_279.out
          have hns23_2 := NB278_279.out
          have hms23_0 := NB279_276.out
          have hms23_1 := NB279_277.out
          have hms23_2 := NB279_278.out
          refine skip_ (w1 := ?_) (by rfl) rfl ?_ ?_
          rotate_left
          ·go_simp
           rfl
          refine hK.out _ _ ⟨(cg_ NB276_279 (hHeld.1)), (cg_ NB276_279 (hHeld.2.1)), (cg_ NB276_279 (hHeld.2.2.1)), (cg_ NB276_279 (hHeld.2.2.2.1)), (cg_ NB277_279 (hHeld.2.2.2.2.1)), (cg_ NB277_279 (hHeld.2.2.2.2.2.1)), (cg_ NB277_279 (hHeld.2.2.2.2.2.2.1)), (cg_ NB277_279 (hHeld.2.2.2.2.2.2.2))⟩ (fun hHeld => ?_)
          clear hK K
          refine done_ (done_of HT_.out (by kernel_rfl)) ?_
          try go_wp2
          go_roundg k2
          case measure => have := HK1.out; have := HK2.out; omega
          case rel => exact ⟨(wrap64 (0 + 1)), (x280000_2), (x280001_2), (wrap64 ((wrap64 (a0_2 * a1_0)) + (wrap64 (a0_3 * a1_2)))), (x280003_2), en_, H', ⟨by have := HK1.out; have := HK2.out; omega⟩, fl_ BK276 NB276_279, fl_ BK277 NB277_279, fl_ BK278 NB278_279, bp_ BK279, bw_ HB⟩
         ·rw [if_neg c21] at H
          have c21b0 : (x13_2 == 0) = false := beq_eq_false_iff_ne.mpr c21
          have c21b1 : (x13_2 != 0) = true := bne_iff_ne.mpr c21
          by_cases c24 : x13_2 = 1
          ·subst c24
           have H1 : (impl_product.l1 k2 1 1 (wrap64 (1 + 1)) a0_0 a0_1 a0_2 a0_3 a1_0 a1_1 a1_2 a1_3 x280000_2 x280001_2 x280002_2 (wrap64 ((wrap64 (a0_2 * a1_1)) + (wrap64 (a0_3 * a1_3))))) = some (r1, r2, r3, r4, r5) := by rw [if_pos rfl] at H; exact H
           clear H
           have H := H1
           clear H1
           have H' := Aside0.mk H
           clear H
           try go_wp2
           replace BK276 := Aside0.mk (blk_drew BK276.out)
           replace BK277 := Aside0.mk (blk_drew BK277.out)
           replace BK278 := Aside0.mk (blk_drew BK278.out)
           replace BK279 := Aside0.mk (blk_drew BK279.out)
           replace HB := Aside0.mk (below_drew1 HB.out)
           refine start_ (n := 24) (S := fun w' => w'.cell? ⟨gb276, 0, none⟩ = some (.int .i64 a0_0) ∧ w'.cell? ⟨gb276, 1, none⟩ = some (.int .i64 a0_1) ∧ w'.cell? ⟨gb276, 2, none⟩ = some (.int .i64 a0_2) ∧ w'.cell? ⟨gb276, 3, none⟩ = some (.int .i64 a0_3) ∧ w'.cell? ⟨gb277, 0, none⟩ = some (.int .i64 a1_0) ∧ w'.cell? ⟨gb277, 1, none⟩ = some (.int .i64 a1_1) ∧ w'.cell? ⟨gb277, 2, none⟩ = some (.int .i64 a1_2) ∧ w'.cell? ⟨gb277, 3, none⟩ = some (.int .i64 a1_3)) (ds := []) (bv_ 24 0) (by kernel_rfl) rfl rfl ⟨cz_ BK276 0, cz_ BK276 1, cz_ BK276 2, cz_ BK276 3, cz_ BK277 0, cz_ BK277 1, cz_ BK277 2, cz_ BK277 3⟩ (fun hHeld => ?_); refine with_tabW impl_product.tab8 impl_product.bits8 (fun HT_ HW_ => ?_)
           generalize wr.drew = w25 at BK276 BK277 BK278 BK279 HB hHeld ⊢
           refine px_ HT_ 0 16 1 ?_
           refine px_ HT_ 1 17 3 ?_
           refine px_ HT_ 2 18 7 ?_
           refine px_ HT_ 3 19 15 ?_
           refine px_ HT_ 4 20 31 ?_
           refine px_ HT_ 6 22 95 ?_
           refine px_ HT_ 7 23 223 ?_
           refine px_ HT_ 8 24 479 ?_
           refine px_ HT_ 11 27 2527 ?_
           refine px_ HT_ 12 28 6623 ?_
           refine px_ HT_ 13 29 14815 ?_
           refine px_ HT_ 15 31 47583 ?_
           refine px_ HT_ 16 32 113119 ?_
           refine px_ HT_ 17 33 244191 ?_
           refine px_ HT_ 21 37 2341343 ?_
           refine ta_ HT_ HW_ 5 (some 21) (bv_ 24 2341375) hHeld ?_ (hy := by rintro w' ⟨s0, s1, s2, s3, s4, s5, s6, s7⟩; go_simp; with_reducible rfl)
           refine ta_ HT_ HW_ 9 (some 25) (bv_ 24 2341887) hHeld ?_ (hy := by rintro w' ⟨s0, s1, s2, s3, s4, s5, s6, s7⟩; go_simp; with_reducible rfl)
           refine px_ HT_ 10 26 2342911 ?_
           refine ta_ HT_ HW_ 14 (some 30) (bv_ 24 2359295) hHeld ?_ (hy := by rintro w' ⟨s0, s1, s2, s3, s4, s5, s6, s7⟩; go_simp; with_reducible rfl)
           refine ta_ HT_ HW_ 18 (some 34) (bv_ 24 2621439) hHeld ?_ (hy := by rintro w' ⟨s0, s1, s2, s3, s4, s5, s6, s7⟩; go_simp; with_reducible rfl)
           refine px_ HT_ 19 35 3145727 ?_
           refine px_ HT_ 20 36 4194303 ?_
           refine px_ HT_ 22 38 8388607 ?_
           refine on_ HT_ 23 none (bv_ 24 16777215) (fun K hK => ?_)
           have hs26 : w25.cell? ⟨gb279, 3, none⟩ = some (.int .i64 x280003_2) := (blk_cell BK279.out 3).trans rfl
           have hfs26 := blk_frozen BK279.out 3
           have hns26_0 := NB276_279.out
           have hns26_1 := NB277_279.out
           have hns26_2 := NB278_279.out
           have hms26_0 := NB279_276.out
           have hms26_1 := NB279_277.out
           have hms26_2 := NB279_278.out
           refine skip_ (w1 := ?_) (by rfl) rfl ?_ ?_
           rotate_left
           ·go_simp
            rfl
           refine hK.out _ _ ⟨(cg_ NB276_279 (hHeld.1)), (cg_ NB276_279 (hHeld.2.1)), (cg_ NB276_279 (hHeld.2.2.1)), (cg_ NB276_279 (hHeld.2.2.2.1)), (cg_ NB277_279 (hHeld.2.2.2.2.1)), (cg_ NB277_279 (hHeld.2.2.2.2.2.1)), (cg_ NB277_279 (hHeld.2.2.2.2.2.2.1)), (cg_ NB277_279 (hHeld.2.2.2.2.2.2.2))⟩ (fun hHeld => ?_)
           clear hK K
           refine done_ (done_of HT_.out (by kernel_rfl)) ?_
           try go_wp2
           go_roundg k2
           case measure => have := HK1.out; have := HK2.out; omega
           case rel => exact ⟨(wrap64 (1 + 1)), (x280000_2), (x280001_2), (x280002_2), (wrap64 ((wrap64 (a0_2 * a1_1)) + (wrap64 (a0_3 * a1_3)))), en_, H', ⟨by have := HK1.out; have := HK2.out; omega⟩, fl_ BK276 NB276_279, fl_ BK277 NB277_279, fl_ BK278 NB278_279, bp_ BK279, bw_ HB⟩
          ·rw [if_neg c24] at H
           exact absurd H (by simp)
        ·rw [if_neg c20] at H
         exact absurd H (by simp)
      ·rw [if_neg c12] at H
       have c12b0 : decide (x13_2 < 2) = false := decide_eq_false c12
       clear c12
       have H' := Aside0.mk H
       clear H
       go_wp2
       go_roundg k2
       case measure => have := HK1.out; have := HK2.out; omega
       case rel => exact ⟨(wrap64 (x10_1 + 1)), (x280000_2), (x280001_2), (x280002_2), (x280003_2), en_, H', ⟨by have := HK1.out; have := HK2.out; omega⟩, bl_ BK276, bl_ BK277, bl_ BK278, bl_ BK279, bw_ HB⟩
   ·rw [if_neg c11] at H
    have c11b0 : decide (x10_1 < 2) = false := decide_eq_false c11
    clear c11
    replace H := ob_ H
    obtain ⟨⟨t280, t281, t282, t283, t284⟩, A270, H⟩ := H
    have A27 := Aside0.mk A270
    clear A270
    simp only [Option.some.injEq, Prod.mk.injEq] at H
    obtain ⟨rfl, rfl, rfl, rfl, rfl⟩ := H
    have hnb28 := NB279_276.out
    have hnc28 := NB276_279.out
    have hnb29 := NB279_277.out
    have hnc29 := NB277_279.out
    have hnb30 := NB279_278.out
    have hnc30 := NB278_279.out
    obtain ⟨hcz31_0, hcz31_1, hcz31_2, hcz31_3, hfz31_0, hfz31_1, hfz31_2, hfz31_3⟩ := ch4_ BK279
    go_wp2_with (first | ((refine gc_ 160 ?_); refine ge_ 42 Try.func160 #[.agg #[.int .i64 x280000_1, .int .i64 x280001_1, .int .i64 x280002_1, .int .i64 x280003_1]] ?_; (with_reducible refine (impl_reduced.calls k1 x280000_1 x280001_1 x280002_1 x280003_1 t280 t281 t282 t283 t284 _ A27.out).mono ?_); rintro e w32 ⟨rfl, hb⟩; refine ⟨_, rfl, ?_⟩; replace BK276 := bb_ BK276 hb; replace BK277 := bb_ BK277 hb; replace BK278 := bb_ BK278 hb; replace BK279 := bb_ BK279 hb; replace HB := bt_ HB hb; (try clear hb); have hnb33 := NB278_276.out; have hnc33 := NB276_278.out; have hnb34 := NB278_277.out; have hnc34 := NB277_278.out; obtain ⟨hcz35_0, hcz35_1, hcz35_2, hcz35_3, hfz35_0, hfz35_1, hfz35_2, hfz35_3⟩ := ch4_ BK278))
    refine bodyPost_ret (results_ct rfl _ _ gb278 46 #[.int .i64 t280, .int .i64 t281, .int .i64 t282, .int .i64 t283] (0, 0) _ rfl (bp_ BK278).out Try.underlying46 rfl (by kernel_rfl)) rfl ?_
    exact ⟨es_, (bw_ HB).out⟩
end Go.Proofs.Ytgoeelhiffbjlaa.QT
