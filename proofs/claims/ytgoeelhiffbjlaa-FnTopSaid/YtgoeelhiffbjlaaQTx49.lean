import Derived.Test.YtgoeelhiffbjlaaQTx10
import Derived.Test.YtgoeelhiffbjlaaQTx21
import Derived.Test.YtgoeelhiffbjlaaQTx48
namespace Go.Proofs.Ytgoeelhiffbjlaa.QT
open Go.RowKit Go.Proofs.YtgoeelhiffbjlaaW.PrintWords Go.Proofs.YtgoeelhiffbjlaaW.PrintLast Go.Proofs.YtgoeelhiffbjlaaW.PrintMore
attribute [local go_sem] isSome_setCell max2_int min2_int max_two min_two max_three min_three max_four min_four
set_option linter.unusedVariables false
set_option linter.unusedSimpArgs false

/-! ### spec_l04Reduce: function 106 -/
mutual
def spec_l04Reduce.l0 : Nat → List Int → Int → Int → Int → Option (Int × Int × Int × Int × Bool)
 | 0, _, _, _, _ => none
 | k + 1, x4, x5, x6, x7 => if x7 < 4 then (if 0 ≤ x7 then (if x7 < (x4.length : Int) then ((spec_l01Gcd.f k x5 (mx (rd x4 x7) (wrap64 (-(rd x4 x7))))).bind fun t312 => (if x6 = 0 then (if (rd x4 x7) = 0 then (spec_l04Reduce.l0 k x4 t312 x6 (wrap64 (x7 + 1))) else (if (mx (rd x4 x7) (wrap64 (-(rd x4 x7)))) = 0 then (none) else (spec_l04Reduce.l0 k x4 t312 (wrap64 (Int.tdiv (rd x4 x7) (mx (rd x4 x7) (wrap64 (-(rd x4 x7)))))) (wrap64 (x7 + 1))))) else (spec_l04Reduce.l0 k x4 t312 x6 (wrap64 (x7 + 1))))) else (none)) else (none)) else (spec_l04Reduce.l1 k x4 (mx x5 (wrap64 (-x5))) x6 true 0)
def spec_l04Reduce.l1 : Nat → List Int → Int → Int → Bool → Int → Option (Int × Int × Int × Int × Bool)
 | 0, _, _, _, _, _ => none
 | k + 1, x4, x5, x6, x8, x9 => if x9 < 4 then (if 0 ≤ x9 then (if x9 < (x4.length : Int) then (if x5 = 0 then (none) else ((some (x4.set (x9 : Int).toNat (wrap64 ((wrap64 (Int.tdiv (rd x4 x9) x5)) * x6)) : List Int)).bind fun y318 => (if x8 = true then ((spec_l01In.f (rd y318 x9) (-1000) 1000).bind fun t320 => (spec_l04Reduce.l1 k y318 x5 x6 t320 (wrap64 (x9 + 1)))) else (spec_l04Reduce.l1 k y318 x5 x6 false (wrap64 (x9 + 1)))))) else (none)) else (none)) else (if 0 < (x4.length : Int) then (if 1 < (x4.length : Int) then (if 2 < (x4.length : Int) then (if 3 < (x4.length : Int) then (some (rd x4 0, rd x4 1, rd x4 2, rd x4 3, x8)) else (none)) else (none)) else (none)) else (none))
end
def spec_l04Reduce.f (k : Nat) (a0_0 : Int) (a0_1 : Int) (a0_2 : Int) (a0_3 : Int) : Option (Int × Int × Int × Int × Bool) := spec_l04Reduce.l0 k (([a0_0, a0_1, a0_2, a0_3] : List Int)) 0 0 0
def spec_l04Reduce.T6 : Bool × List (List Nat × List Nat) := (true, [([], []), ([], []), ([], []), ([1, 2], [1, 2]), ([3], [3]), ([], []), ([], []), ([5, 6], [5, 6]), ([7], [7]), ([8], [8]), ([4, 9], [4, 9]), ([0, 10], [0, 10]), ([11, 11, 0, 1, 2, 3, 4, 5, 6, 7, 8, 9, 10, 11], [0, 11])])
def spec_l04Reduce.B6 : List Nat := [0, 0, 0, 6, 14, 0, 0, 96, 224, 480, 1022, 2047, 4095]
theorem spec_l04Reduce.tab6 : rtab .any (opsOf Try.f106 6) = spec_l04Reduce.T6 := by kernel_rfl
theorem spec_l04Reduce.bits6 : waitsOk spec_l04Reduce.T6.2 spec_l04Reduce.B6 = true := by kernel_rfl
def spec_l04Reduce.T8 : Bool × List (List Nat × List Nat) := (true, [([], []), ([], []), ([0, 1], [0, 1]), ([2], [2]), ([], []), ([], []), ([4, 5], [4, 5]), ([6], [6]), ([], []), ([], []), ([8, 9], [8, 9]), ([10], [10]), ([11], [11]), ([7, 12], [7, 12]), ([3, 13], [3, 13]), ([14, 0, 1, 2, 3, 4, 5, 6, 7, 8, 9, 10, 11, 12, 13, 14], [14])])
def spec_l04Reduce.B8 : List Nat := [0, 0, 3, 7, 0, 0, 48, 112, 0, 0, 768, 1792, 3840, 8176, 16383, 32767]
theorem spec_l04Reduce.tab8 : rtab .any (opsOf Try.f106 8) = spec_l04Reduce.T8 := by kernel_rfl
theorem spec_l04Reduce.bits8 : waitsOk spec_l04Reduce.T8.2 spec_l04Reduce.B8 = true := by kernel_rfl
def spec_l04Reduce.T16 : Bool × List (List Nat × List Nat) := (true, [([], []), ([0], [0]), ([1], [1]), ([], []), ([3], [3]), ([4], [4]), ([2, 5], [2, 5]), ([], []), ([7], [7]), ([8], [8]), ([], []), ([10], [10]), ([11], [11]), ([9, 12], [9, 12]), ([6, 13], [6, 13]), ([], []), ([14, 0, 1, 2, 3, 4, 5, 6, 7, 8, 9, 10, 11, 12, 13, 14], [14]), ([15, 16, 0, 1, 2, 3, 4, 5, 6, 7, 8, 9, 10, 11, 12, 13, 14, 15, 16], [15])])
def spec_l04Reduce.B16 : List Nat := [0, 1, 3, 0, 8, 24, 63, 0, 128, 384, 0, 1024, 3072, 8064, 16383, 0, 32767, 131071]
theorem spec_l04Reduce.tab16 : rtab .any (opsOf Try.f106 16) = spec_l04Reduce.T16 := by kernel_rfl
theorem spec_l04Reduce.bits16 : waitsOk spec_l04Reduce.T16.2 spec_l04Reduce.B16 = true := by kernel_rfl
set_option maxHeartbeats 8000000 in
set_option maxRecDepth 100000 in
theorem spec_l04Reduce.calls (k : Nat) (a0_0 : Int) (a0_1 : Int) (a0_2 : Int) (a0_3 : Int) (r1 : Int) (r2 : Int) (r3 : Int) (r4 : Int) (r5 : Bool) (w : World) (h : spec_l04Reduce.f k a0_0 a0_1 a0_2 a0_3 = some (r1, r2, r3, r4, r5)) :
  Calls Try.prog 106 #[.agg #[.int .i64 a0_0, .int .i64 a0_1, .int .i64 a0_2, .int .i64 a0_3]] w fun e w' => e = .returned (.tuple #[.agg #[.int .i64 r1, .int .i64 r2, .int .i64 r3, .int .i64 r4], .bool r5]) ∧ Below w.heap.size w w' := by
 have hu46 := Try.underlying46
 have hu44 := Try.underlying44
 have HB := Aside0.mk (Below.refl w.heap.size w)
 have H : (spec_l04Reduce.l0 k (([a0_0, a0_1, a0_2, a0_3] : List Int)) 0 0 0) = some (r1, r2, r3, r4, r5) := h
 clear h
 obtain ⟨y307, hy307⟩ : ∃ y_ : List Int, y_ = (([a0_0, a0_1, a0_2, a0_3] : List Int)) := ⟨_, rfl⟩
 replace H : (spec_l04Reduce.l0 k y307 0 0 0) = some (r1, r2, r3, r4, r5) := by first | (rw [hy307]; with_reducible exact H) | (have H2_ := (Option.bind_some _ _).symm.trans H; rw [hy307]; with_reducible exact H2_) | (have H2_ := (Option.bind_some _ _).symm.trans H; with_reducible exact H2_) | with_reducible exact H | (rw [hy307]; exact H) | exact H
 have Ny307 := Aside0.mk hy307
 clear hy307
 have H' := Aside0.mk H
 clear H
 go_enter Try.func106, Try.ntmps106
 go_wp2_with (first | ((refine gd_ 1 ?_); refine bx_ 1 #[.int .i64 a0_0, .int .i64 a0_1, .int .i64 a0_2, .int .i64 a0_3] 46 ?_; intro gb305 hg w2 BK305 hb; have GW305 := bs_ HB hg; have GE305 := bs_ HB hg; replace HB := bt_ HB hb; clear hb hg) | ((refine gd_ 2 ?_); refine bx_ 2 #[.int .i64 0, .int .i64 0, .int .i64 0, .int .i64 0] 46 ?_; intro gb306 hg w3 BK306 hb; have GW306 := bs_ HB hg; have GE306 := bs_ HB hg; have NB305_306 := bm_ BK305 hg; have NB306_305 := bn_ BK305 hg; replace BK305 := bb_ BK305 hb; replace HB := bt_ HB hb; clear hb hg; have hnb4 := NB305_306.out; have hnc4 := NB306_305.out; obtain ⟨hcz5_0, hcz5_1, hcz5_2, hcz5_3, hfz5_0, hfz5_1, hfz5_2, hfz5_3⟩ := ch4_ BK305) | ((refine gd_ 22 ?_); refine Kd.R_lit (Kd.int .i64) _ 2 ?hg (N := 22) ?hd (xs := ([a0_0, a0_1, a0_2, a0_3] : List Int)) (inner := [.int .i64 a0_0, .int .i64 a0_1, .int .i64 a0_2, .int .i64 a0_3]) (ok := fun _ => True) (okp := fun _ => True) ?hr ?hp (fun _ hk => hk) trivial (Below.refl _ _) (Nat.le_refl _) (by simp) ?_; (case hd => rfl); (case hg => rfl); (case hr => first | (go_simp; done) | (go_simp; rfl)); (case hp => exact (Reps.one (show Kd.M (Kd.int .i64) _ _ _ a0_0 [.int .i64 a0_0] from rfl) (Reps.one (show Kd.M (Kd.int .i64) _ _ _ a0_1 [.int .i64 a0_1] from rfl) (Reps.one (show Kd.M (Kd.int .i64) _ _ _ a0_2 [.int .i64 a0_2] from rfl) (Reps.one (show Kd.M (Kd.int .i64) _ _ _ a0_3 [.int .i64 a0_3] from rfl) (Reps.none _ _)))))); intro v308 w6 ho7 hb hg_ hnew_; clear hg_ hnew_; (first | rw [← Ny307.out] at ho7 | (simp only [Int.reduceToNat] at ho7; rw [← Ny307.out] at ho7)); have HO309 := Aside0.mk (Kd.R_lower ho7 (below_size (bw_ HB).out)); replace BK305 := bb_ BK305 hb; replace BK306 := bb_ BK306 hb; replace HB := bt_ HB hb; clear hb ho7))
 go_loopg [5, 6, 7] k (fun kq v5 v6 v7 w' => ∃ (x5_1 : Int) (x6_1 : Int) (x7_1 : Int), v5 = .int .i64 x5_1 ∧ v6 = .int .i64 x6_1 ∧ v7 = .int .i64 x7_1 ∧ Aside0 (spec_l04Reduce.l0 kq y307 x5_1 x6_1 x7_1 = some (r1, r2, r3, r4, r5)) ∧ Aside0 (kq ≤ k) ∧ Aside0 (Kd.R (Kd.int .i64) 2 w' w.heap.size (fun _ => True) v308 y307) ∧ Aside0 (w'.heap[gb305]? = some (.cells #[.int .i64 a0_0, .int .i64 a0_1, .int .i64 a0_2, .int .i64 a0_3] 46 (0, 0))) ∧ Aside0 (w'.heap[gb306]? = some (.cells #[.int .i64 0, .int .i64 0, .int .i64 0, .int .i64 0] 46 (0, 0))) ∧ Aside0 (Below w.heap.size w w'))
 case atStart => exact ⟨(0), (0), (0), en_, en_, en_, H', ⟨Nat.le_refl _⟩, ⟨by (with_reducible repeat (first | apply Kd.R_alloc | apply Kd.R_drewN | apply Kd.R_drew)); exact HO309.out⟩, bl_ BK305, bl_ BK306, bw_ HB⟩
 case round =>
  clear H'
  try clear c1
  try clear p2
  try clear c4
  try clear hcz5_0 hcz5_1 hcz5_2 hcz5_3
  try clear hfz5_0 hfz5_1 hfz5_2 hfz5_3
  obtain ⟨x5_1, x6_1, x7_1, rfl, rfl, rfl, HA, HK1, HO_4, BK305, BK306, HB⟩ := hrel
  cases gk with
  | zero => exact absurd HA.out (by simp [spec_l04Reduce.l0])
  | succ k1 =>
   have H := HA.out
   clear HA
   simp only [spec_l04Reduce.l0] at H
   by_cases c8 : x7_1 < 4
   ·rw [if_pos c8] at H
    have c8b0 : decide (x7_1 < 4) = true := decide_eq_true c8
    clear c8
    by_cases c9 : 0 ≤ x7_1
    ·rw [if_pos c9] at H
     have c9b0 : decide (0 ≤ x7_1) = true := decide_eq_true c9
     clear c9
     by_cases c10 : x7_1 < (y307.length : Int)
     ·rw [if_pos c10] at H
      have c10b0 : decide (x7_1 < (y307.length : Int)) = true := decide_eq_true c10
      clear c10
      obtain ⟨ji11, hji11⟩ : ∃ j_ : Int, (mx (rd y307 x7_1) (wrap64 (-(rd y307 x7_1)))) = j_ := ⟨_, rfl⟩
      replace H : ((spec_l01Gcd.f k1 x5_1 (ji11)).bind fun t312 => (if x6_1 = 0 then (if (rd y307 x7_1) = 0 then (spec_l04Reduce.l0 k1 y307 t312 x6_1 (wrap64 (x7_1 + 1))) else (if (ji11) = 0 then (none) else (spec_l04Reduce.l0 k1 y307 t312 (wrap64 (Int.tdiv (rd y307 x7_1) (ji11))) (wrap64 (x7_1 + 1))))) else (spec_l04Reduce.l0 k1 y307 t312 x6_1 (wrap64 (x7_1 + 1))))) = some (r1, r2, r3, r4, r5) := by first | (rw [hji11] at H; exact H) | (simp only [hji11] at H ⊢; exact H)
      have hji11_k : (if (rd y307 x7_1) < (IntKind.i64.wrap (-(rd y307 x7_1))) then (IntKind.i64.wrap (-(rd y307 x7_1))) else (rd y307 x7_1)) = ji11 := by simp only [i64_w]; exact hji11
      have hji11_ : (if (rd y307 x7_1) < (wrap64 (-(rd y307 x7_1))) then (wrap64 (-(rd y307 x7_1))) else (rd y307 x7_1)) = ji11 := hji11
      replace H := ob_ H
      obtain ⟨t312, A120, H⟩ := H
      have A12 := Aside0.mk A120
      clear A120
      by_cases c13 : x6_1 = 0
      ·rw [if_pos c13] at H
       have c13b0 : (x6_1 == 0) = true := beq_iff_eq.mpr c13
       have c13b1 : (x6_1 != 0) = false := bne_eq_false_iff_eq.mpr c13
       clear c13
       by_cases c14 : (rd y307 x7_1) = 0
       ·rw [if_pos c14] at H
        have c14b0 : ((rd y307 x7_1) == 0) = true := beq_iff_eq.mpr c14
        have c14b1 : ((rd y307 x7_1) != 0) = false := bne_eq_false_iff_eq.mpr c14
        clear c14
        have H' := Aside0.mk H
        clear H
        try go_wp2
        replace HO_4 := Aside0.mk (Kd.R_drew HO_4.out)
        replace BK305 := Aside0.mk (blk_drew BK305.out)
        replace BK306 := Aside0.mk (blk_drew BK306.out)
        replace HB := Aside0.mk (below_drew1 HB.out)
        obtain ⟨Ao16, co16, eo16⟩ := Kd.R_slice HO_4.out
        (first | subst eo16 | (injection eo16 with f1_ f2_ f3_; have f4_ := f1_.symm; have f5_ := f3_.symm; clear f1_ f2_ f3_; subst f4_; subst f5_))
        have p310 : 0 ≤ (x7_1 : Int) := od_
        have q310 : x7_1 < (y307.length : Int) := od_
        obtain ⟨ad310, e310, hx310_0⟩ := Kd.at_int (Kd.R_reads' HO_4.out).2.2 x7_1 p310 q310
        cases e310
        replace p310 := eq_true p310
        replace q310 := eq_true q310
        have p311 : 0 ≤ (x7_1 : Int) := od_
        have q311 : x7_1 < (y307.length : Int) := od_
        obtain ⟨ad311, e311, hx311_0⟩ := Kd.at_int (Kd.R_reads' HO_4.out).2.2 x7_1 p311 q311
        obtain rfl : ad310 = ad311 := (by injection e311)
        replace p311 := eq_true p311
        replace q311 := eq_true q311
        refine start_ (n := 13) (S := fun w' => w'.cell? (ad310.add (x7_1).toNat) = some (.int .i64 (rd y307 x7_1)) ∧ w'.cell? (ad310.add (x7_1).toNat) = some (.int .i64 (rd y307 x7_1))) (ds := []) (bv_ 13 0) (by kernel_rfl) rfl rfl ⟨hx310_0, hx311_0⟩ (fun hHeld => ?_); refine with_tabW spec_l04Reduce.tab6 spec_l04Reduce.bits6 (fun HT_ HW_ => ?_)
        generalize wr.drew = w15 at HO_4 BK305 BK306 HB hx310_0 hx311_0 hHeld ⊢
        refine px_ HT_ 0 27 1 ?_
        refine px_ HT_ 1 28 3 ?_
        refine px_ HT_ 2 29 7 ?_
        refine px_ HT_ 3 30 15 ?_
        refine px_ HT_ 5 32 47 ?_
        refine px_ HT_ 6 33 111 ?_
        refine px_ HT_ 7 34 239 ?_
        refine ta_ HT_ HW_ 4 (some 31) (bv_ 13 255) hHeld ?_ (hy := by rintro w' ⟨s0, s1⟩; go_simp; with_reducible rfl)
        refine ta_ HT_ HW_ 8 (some 35) (bv_ 13 511) hHeld ?_ (hy := by rintro w' ⟨s0, s1⟩; go_simp; with_reducible rfl)
        refine px_ HT_ 9 36 1023 ?_
        refine px_ HT_ 10 37 2047 ?_
        refine on_ HT_ 11 (some 38) (bv_ 13 4095) (fun K hK => ?_)
        refine gs_ Try.func167 #[.int .i64 x5_1, .int .i64 ji11] ?_ (hargs := by (try simp only [List.map_toArray, List.map_cons, List.map_nil]); first | done | (simp only [hji11]; rfl) | rfl | (simp only [List.length_drop, List.length_take]; rfl))
        with_reducible refine (spec_l01Gcd.calls k1 x5_1 ji11 t312 _ A12.out).mono ?_
        rintro e w17 ⟨rfl, hb⟩
        have HS0_ := (hb.cell (World.block_lt_of_cell? _ _ (hHeld.1))).trans (hHeld.1)
        have HS1_ := (hb.cell (World.block_lt_of_cell? _ _ (hHeld.2))).trans (hHeld.2)
        refine ⟨_, rfl, ?_⟩
        replace HO_4 := rb_ HO_4 hb
        replace BK305 := bb_ BK305 hb
        replace BK306 := bb_ BK306 hb
        replace HB := bt_ HB hb
        (try clear hb)
        (try clear hb2)
        (try clear hk)
        (try clear hi)
        refine hK.out _ _ ⟨HS0_, HS1_⟩ (fun hHeld => ?_)
        clear hK K
        refine nm_ (some 38) ?_
        refine px_ HT_ 12 5 8191 ?_
        refine done_ (done_of HT_.out (by kernel_rfl)) ?_
        have p313 : 0 ≤ (x7_1 : Int) := od_
        have q313 : x7_1 < (y307.length : Int) := od_
        obtain ⟨ad313, e313, hx313_0⟩ := Kd.at_int (Kd.R_reads' HO_4.out).2.2 x7_1 p313 q313
        obtain rfl : ad310 = ad313 := (by injection e313)
        replace p313 := eq_true p313
        replace q313 := eq_true q313
        try go_wp2
        go_roundg k1
        case measure => have := HK1.out; omega
        case rel => exact ⟨(t312), (x6_1), (wrap64 (x7_1 + 1)), en_, en_, en_, H', ⟨by have := HK1.out; omega⟩, ⟨by (with_reducible repeat (first | apply Kd.R_alloc | apply Kd.R_drewN | apply Kd.R_drew)); exact HO_4.out⟩, bl_ BK305, bl_ BK306, bw_ HB⟩
       ·rw [if_neg c14] at H
        have c14b0 : ((rd y307 x7_1) == 0) = false := beq_eq_false_iff_ne.mpr c14
        have c14b1 : ((rd y307 x7_1) != 0) = true := bne_iff_ne.mpr c14
        by_cases c18 : (ji11) = 0
        ·rw [if_pos c18] at H
         exact absurd H (by simp)
        ·rw [if_neg c18] at H
         have c18b0 : ((ji11) == 0) = false := beq_eq_false_iff_ne.mpr c18
         have c18b1 : ((ji11) != 0) = true := bne_iff_ne.mpr c18
         have H' := Aside0.mk H
         clear H
         try go_wp2
         replace HO_4 := Aside0.mk (Kd.R_drew HO_4.out)
         replace BK305 := Aside0.mk (blk_drew BK305.out)
         replace BK306 := Aside0.mk (blk_drew BK306.out)
         replace HB := Aside0.mk (below_drew1 HB.out)
         obtain ⟨Ao20, co20, eo20⟩ := Kd.R_slice HO_4.out
         (first | subst eo20 | (injection eo20 with f1_ f2_ f3_; have f4_ := f1_.symm; have f5_ := f3_.symm; clear f1_ f2_ f3_; subst f4_; subst f5_))
         have p310 : 0 ≤ (x7_1 : Int) := od_
         have q310 : x7_1 < (y307.length : Int) := od_
         obtain ⟨ad310, e310, hx310_0⟩ := Kd.at_int (Kd.R_reads' HO_4.out).2.2 x7_1 p310 q310
         cases e310
         replace p310 := eq_true p310
         replace q310 := eq_true q310
         have p311 : 0 ≤ (x7_1 : Int) := od_
         have q311 : x7_1 < (y307.length : Int) := od_
         obtain ⟨ad311, e311, hx311_0⟩ := Kd.at_int (Kd.R_reads' HO_4.out).2.2 x7_1 p311 q311
         obtain rfl : ad310 = ad311 := (by injection e311)
         replace p311 := eq_true p311
         replace q311 := eq_true q311
         refine start_ (n := 13) (S := fun w' => w'.cell? (ad310.add (x7_1).toNat) = some (.int .i64 (rd y307 x7_1)) ∧ w'.cell? (ad310.add (x7_1).toNat) = some (.int .i64 (rd y307 x7_1))) (ds := []) (bv_ 13 0) (by kernel_rfl) rfl rfl ⟨hx310_0, hx311_0⟩ (fun hHeld => ?_); refine with_tabW spec_l04Reduce.tab6 spec_l04Reduce.bits6 (fun HT_ HW_ => ?_)
         generalize wr.drew = w19 at HO_4 BK305 BK306 HB hx310_0 hx311_0 hHeld ⊢
         refine px_ HT_ 0 27 1 ?_
         refine px_ HT_ 1 28 3 ?_
         refine px_ HT_ 2 29 7 ?_
         refine px_ HT_ 3 30 15 ?_
         refine px_ HT_ 5 32 47 ?_
         refine px_ HT_ 6 33 111 ?_
         refine px_ HT_ 7 34 239 ?_
         refine ta_ HT_ HW_ 4 (some 31) (bv_ 13 255) hHeld ?_ (hy := by rintro w' ⟨s0, s1⟩; go_simp; with_reducible rfl)
         refine ta_ HT_ HW_ 8 (some 35) (bv_ 13 511) hHeld ?_ (hy := by rintro w' ⟨s0, s1⟩; go_simp; with_reducible rfl)
         refine px_ HT_ 9 36 1023 ?_
         refine px_ HT_ 10 37 2047 ?_
         refine on_ HT_ 11 (some 38) (bv_ 13 4095) (fun K hK => ?_)
         refine gs_ Try.func167 #[.int .i64 x5_1, .int .i64 ji11] ?_ (hargs := by (try simp only [List.map_toArray, List.map_cons, List.map_nil]); first | done | (simp only [hji11]; rfl) | rfl | (simp only [List.length_drop, List.length_take]; rfl))
         with_reducible refine (spec_l01Gcd.calls k1 x5_1 ji11 t312 _ A12.out).mono ?_
         rintro e w21 ⟨rfl, hb⟩
         have HS0_ := (hb.cell (World.block_lt_of_cell? _ _ (hHeld.1))).trans (hHeld.1)
         have HS1_ := (hb.cell (World.block_lt_of_cell? _ _ (hHeld.2))).trans (hHeld.2)
         refine ⟨_, rfl, ?_⟩
         replace HO_4 := rb_ HO_4 hb
         replace BK305 := bb_ BK305 hb
         replace BK306 := bb_ BK306 hb
         replace HB := bt_ HB hb
         (try clear hb)
         (try clear hb2)
         (try clear hk)
         (try clear hi)
         refine hK.out _ _ ⟨HS0_, HS1_⟩ (fun hHeld => ?_)
         clear hK K
         refine nm_ (some 38) ?_
         refine px_ HT_ 12 5 8191 ?_
         refine done_ (done_of HT_.out (by kernel_rfl)) ?_
         have p313 : 0 ≤ (x7_1 : Int) := od_
         have q313 : x7_1 < (y307.length : Int) := od_
         obtain ⟨ad313, e313, hx313_0⟩ := Kd.at_int (Kd.R_reads' HO_4.out).2.2 x7_1 p313 q313
         obtain rfl : ad310 = ad313 := (by injection e313)
         replace p313 := eq_true p313
         replace q313 := eq_true q313
         try go_wp2
         replace HO_4 := Aside0.mk (Kd.R_drew HO_4.out)
         replace BK305 := Aside0.mk (blk_drew BK305.out)
         replace BK306 := Aside0.mk (blk_drew BK306.out)
         replace HB := Aside0.mk (below_drew1 HB.out)
         have p314 : 0 ≤ (x7_1 : Int) := od_
         have q314 : x7_1 < (y307.length : Int) := od_
         obtain ⟨ad314, e314, hx314_0⟩ := Kd.at_int (Kd.R_reads' HO_4.out).2.2 x7_1 p314 q314
         obtain rfl : ad310 = ad314 := (by injection e314)
         replace p314 := eq_true p314
         replace q314 := eq_true q314
         have p315 : 0 ≤ (x7_1 : Int) := od_
         have q315 : x7_1 < (y307.length : Int) := od_
         obtain ⟨ad315, e315, hx315_0⟩ := Kd.at_int (Kd.R_reads' HO_4.out).2.2 x7_1 p315 q315
         obtain rfl : ad310 = ad315 := (by injection e315)
         replace p315 := eq_true p315
         replace q315 := eq_true q315
         have p316 : 0 ≤ (x7_1 : Int) := od_
         have q316 : x7_1 < (y307.length : Int) := od_
         obtain ⟨ad316, e316, hx316_0⟩ := Kd.at_int (Kd.R_reads' HO_4.out).2.2 x7_1 p316 q316
         obtain rfl : ad310 = ad316 := (by injection e316)
         replace p316 := eq_true p316
         replace q316 := eq_true q316
         refine start_ (n := 16) (S := fun w' => w'.cell? (ad310.add (x7_1).toNat) = some (.int .i64 (rd y307 x7_1)) ∧ w'.cell? (ad310.add (x7_1).toNat) = some (.int .i64 (rd y307 x7_1)) ∧ w'.cell? (ad310.add (x7_1).toNat) = some (.int .i64 (rd y307 x7_1))) (ds := []) (bv_ 16 0) (by kernel_rfl) rfl rfl ⟨hx314_0, hx315_0, hx316_0⟩ (fun hHeld => ?_); refine with_tabW spec_l04Reduce.tab8 spec_l04Reduce.bits8 (fun HT_ HW_ => ?_)
         generalize w21.drew = w22 at HO_4 BK305 BK306 HB hx314_0 hx315_0 hx316_0 hHeld ⊢
         refine px_ HT_ 0 48 1 ?_
         refine px_ HT_ 1 49 3 ?_
         refine px_ HT_ 2 50 7 ?_
         refine px_ HT_ 4 52 23 ?_
         refine px_ HT_ 5 53 55 ?_
         refine px_ HT_ 6 54 119 ?_
         refine px_ HT_ 8 56 375 ?_
         refine px_ HT_ 9 57 887 ?_
         refine px_ HT_ 10 58 1911 ?_
         refine ta_ HT_ HW_ 3 (some 51) (bv_ 16 1919) hHeld ?_ (hy := by rintro w' ⟨s0, s1, s2⟩; go_simp; with_reducible rfl)
         refine ta_ HT_ HW_ 7 (some 55) (bv_ 16 2047) hHeld ?_ (hy := by rintro w' ⟨s0, s1, s2⟩; go_simp; with_reducible rfl)
         refine ta_ HT_ HW_ 11 (some 59) (bv_ 16 4095) hHeld ?_ (hy := by rintro w' ⟨s0, s1, s2⟩; go_simp; with_reducible rfl)
         refine px_ HT_ 12 60 8191 ?_
         refine px_ HT_ 13 61 16383 ?_
         refine px_ HT_ 14 62 32767 ?_
         refine px_ HT_ 15 6 65535 ?_
         refine done_ (done_of HT_.out (by kernel_rfl)) ?_
         try go_wp2
         go_roundg k1
         case measure => have := HK1.out; omega
         case rel => exact ⟨(t312), (wrap64 (Int.tdiv (rd y307 x7_1) (ji11))), (wrap64 (x7_1 + 1)), en_, (by first | rfl | (simp; done) | (simp only [← hji11] <;> (first | rfl | simp)) | (simp [*]; done)), en_, H', ⟨by have := HK1.out; omega⟩, ⟨by (with_reducible repeat (first | apply Kd.R_alloc | apply Kd.R_drewN | apply Kd.R_drew)); exact HO_4.out⟩, bl_ BK305, bl_ BK306, bw_ HB⟩
      ·rw [if_neg c13] at H
       have c13b0 : (x6_1 == 0) = false := beq_eq_false_iff_ne.mpr c13
       have c13b1 : (x6_1 != 0) = true := bne_iff_ne.mpr c13
       have H' := Aside0.mk H
       clear H
       try go_wp2
       replace HO_4 := Aside0.mk (Kd.R_drew HO_4.out)
       replace BK305 := Aside0.mk (blk_drew BK305.out)
       replace BK306 := Aside0.mk (blk_drew BK306.out)
       replace HB := Aside0.mk (below_drew1 HB.out)
       obtain ⟨Ao24, co24, eo24⟩ := Kd.R_slice HO_4.out
       (first | subst eo24 | (injection eo24 with f1_ f2_ f3_; have f4_ := f1_.symm; have f5_ := f3_.symm; clear f1_ f2_ f3_; subst f4_; subst f5_))
       have p310 : 0 ≤ (x7_1 : Int) := od_
       have q310 : x7_1 < (y307.length : Int) := od_
       obtain ⟨ad310, e310, hx310_0⟩ := Kd.at_int (Kd.R_reads' HO_4.out).2.2 x7_1 p310 q310
       cases e310
       replace p310 := eq_true p310
       replace q310 := eq_true q310
       have p311 : 0 ≤ (x7_1 : Int) := od_
       have q311 : x7_1 < (y307.length : Int) := od_
       obtain ⟨ad311, e311, hx311_0⟩ := Kd.at_int (Kd.R_reads' HO_4.out).2.2 x7_1 p311 q311
       obtain rfl : ad310 = ad311 := (by injection e311)
       replace p311 := eq_true p311
       replace q311 := eq_true q311
       refine start_ (n := 13) (S := fun w' => w'.cell? (ad310.add (x7_1).toNat) = some (.int .i64 (rd y307 x7_1)) ∧ w'.cell? (ad310.add (x7_1).toNat) = some (.int .i64 (rd y307 x7_1))) (ds := []) (bv_ 13 0) (by kernel_rfl) rfl rfl ⟨hx310_0, hx311_0⟩ (fun hHeld => ?_); refine with_tabW spec_l04Reduce.tab6 spec_l04Reduce.bits6 (fun HT_ HW_ => ?_)
       generalize wr.drew = w23 at HO_4 BK305 BK306 HB hx310_0 hx311_0 hHeld ⊢
       refine px_ HT_ 0 27 1 ?_
       refine px_ HT_ 1 28 3 ?_
       refine px_ HT_ 2 29 7 ?_
       refine px_ HT_ 3 30 15 ?_
       refine px_ HT_ 5 32 47 ?_
       refine px_ HT_ 6 33 111 ?_
       refine px_ HT_ 7 34 239 ?_
       refine ta_ HT_ HW_ 4 (some 31) (bv_ 13 255) hHeld ?_ (hy := by rintro w' ⟨s0, s1⟩; go_simp; with_reducible rfl)
       refine ta_ HT_ HW_ 8 (some 35) (bv_ 13 511) hHeld ?_ (hy := by rintro w' ⟨s0, s1⟩; go_simp; with_reducible rfl)
       refine px_ HT_ 9 36 1023 ?_
       refine px_ HT_ 10 37 2047 ?_
       refine on_ HT_ 11 (some 38) (bv_ 13 4095) (fun K hK => ?_)
       refine gs_ Try.func167 #[.int .i64 x5_1, .int .i64 ji11] ?_ (hargs := by (try simp only [List.map_toArray, List.map_cons, List.map_nil]); first | done | (simp only [hji11]; rfl) | rfl | (simp only [List.length_drop, List.length_take]; rfl))
       with_reducible refine (spec_l01Gcd.calls k1 x5_1 ji11 t312 _ A12.out).mono ?_
       rintro e w25 ⟨rfl, hb⟩
       have HS0_ := (hb.cell (World.block_lt_of_cell? _ _ (hHeld.1))).trans (hHeld.1)
       have HS1_ := (hb.cell (World.block_lt_of_cell? _ _ (hHeld.2))).trans (hHeld.2)
       refine ⟨_, rfl, ?_⟩
       replace HO_4 := rb_ HO_4 hb
       replace BK305 := bb_ BK305 hb
       replace BK306 := bb_ BK306 hb
       replace HB := bt_ HB hb
       (try clear hb)
       (try clear hb2)
       (try clear hk)
       (try clear hi)
       refine hK.out _ _ ⟨HS0_, HS1_⟩ (fun hHeld => ?_)
       clear hK K
       refine nm_ (some 38) ?_
       refine px_ HT_ 12 5 8191 ?_
       refine done_ (done_of HT_.out (by kernel_rfl)) ?_
       try go_wp2
       go_roundg k1
       case measure => have := HK1.out; omega
       case rel => exact ⟨(t312), (x6_1), (wrap64 (x7_1 + 1)), en_, en_, en_, H', ⟨by have := HK1.out; omega⟩, ⟨by (with_reducible repeat (first | apply Kd.R_alloc | apply Kd.R_drewN | apply Kd.R_drew)); exact HO_4.out⟩, bl_ BK305, bl_ BK306, bw_ HB⟩
     ·rw [if_neg c10] at H
      exact absurd H (by simp)
    ·rw [if_neg c9] at H
     exact absurd H (by simp)
   ·rw [if_neg c8] at H
    have c8b0 : decide (x7_1 < 4) = false := decide_eq_false c8
    clear c8
    obtain ⟨ji26, hji26⟩ : ∃ j_ : Int, (mx x5_1 (wrap64 (-x5_1))) = j_ := ⟨_, rfl⟩
    replace H : (spec_l04Reduce.l1 k1 y307 ji26 x6_1 true 0) = some (r1, r2, r3, r4, r5) := by first | (rw [hji26] at H; exact H) | (simp only [hji26] at H ⊢; exact H)
    have hji26_k : (if x5_1 < (IntKind.i64.wrap (-x5_1)) then (IntKind.i64.wrap (-x5_1)) else x5_1) = ji26 := by simp only [i64_w]; exact hji26
    have hji26_ : (if x5_1 < (wrap64 (-x5_1)) then (wrap64 (-x5_1)) else x5_1) = ji26 := hji26
    have H' := Aside0.mk H
    clear H
    go_wp2
    go_loopg [8, 9] k1 (fun kq v8 v9 w' => ∃ (x4_2 : List Int) (x8_2 : Bool) (x9_2 : Int), v8 = .bool x8_2 ∧ v9 = .int .i64 x9_2 ∧ Aside0 (spec_l04Reduce.l1 kq x4_2 ji26 x6_1 x8_2 x9_2 = some (r1, r2, r3, r4, r5)) ∧ Aside0 (kq ≤ k1) ∧ Aside0 (Kd.R (Kd.int .i64) 2 w' w.heap.size (fun _ => True) v308 x4_2) ∧ Aside0 (w'.heap[gb305]? = some (.cells #[.int .i64 a0_0, .int .i64 a0_1, .int .i64 a0_2, .int .i64 a0_3] 46 (0, 0))) ∧ Aside0 (w'.heap[gb306]? = some (.cells #[.int .i64 0, .int .i64 0, .int .i64 0, .int .i64 0] 46 (0, 0))) ∧ Aside0 (Below w.heap.size w w'))
    case atStart => exact ⟨(y307), (true), (0), en_, en_, H', ⟨Nat.le_refl _⟩, ⟨by (with_reducible repeat (first | apply Kd.R_alloc | apply Kd.R_drewN | apply Kd.R_drew)); exact HO_4.out⟩, bl_ BK305, bl_ BK306, bw_ HB⟩
    case round =>
     clear H'
     try clear c1
     try clear p2
     try clear p3
     try clear q3
     try clear hx3
     try clear p6
     try clear c8
     try clear c8b0
     try clear c9
     try clear c10
     try clear c13
     try clear c13b0
     try clear c13b1
     try clear c14
     try clear c14b0
     try clear c14b1
     try clear c16
     try clear c18
     try clear c18b0
     try clear c18b1
     try clear hx310_0
     try clear hx311_0
     try clear hx313_0
     try clear hx314_0
     try clear hx315_0
     try clear hx316_0
     try clear p310
     try clear p311
     try clear p313
     try clear p314
     try clear p315
     try clear p316
     try clear q310
     try clear q311
     try clear q313
     try clear q314
     try clear q315
     try clear q316
     obtain ⟨x4_2, x8_2, x9_2, rfl, rfl, HA, HK2, HO_4, BK305, BK306, HB⟩ := hrel
     cases gk with
     | zero => exact absurd HA.out (by simp [spec_l04Reduce.l1])
     | succ k2 =>
      have H := HA.out
      clear HA
      simp only [spec_l04Reduce.l1] at H
      by_cases c27 : x9_2 < 4
      ·rw [if_pos c27] at H
       have c27b0 : decide (x9_2 < 4) = true := decide_eq_true c27
       clear c27
       by_cases c28 : 0 ≤ x9_2
       ·rw [if_pos c28] at H
        have c28b0 : decide (0 ≤ x9_2) = true := decide_eq_true c28
        clear c28
        by_cases c29 : x9_2 < (x4_2.length : Int)
        ·rw [if_pos c29] at H
         have c29b0 : decide (x9_2 < (x4_2.length : Int)) = true := decide_eq_true c29
         clear c29
         by_cases c30 : ji26 = 0
         ·rw [if_pos c30] at H
          exact absurd H (by simp)
         ·rw [if_neg c30] at H
          have c30b0 : (ji26 == 0) = false := beq_eq_false_iff_ne.mpr c30
          have c30b1 : (ji26 != 0) = true := bne_iff_ne.mpr c30
          obtain ⟨y318, hy318⟩ : ∃ y_ : List Int, y_ = (x4_2.set (x9_2 : Int).toNat (wrap64 ((wrap64 (Int.tdiv (rd x4_2 x9_2) ji26)) * x6_1))) := ⟨_, rfl⟩
          replace H : (if x8_2 = true then ((spec_l01In.f (rd y318 x9_2) (-1000) 1000).bind fun t320 => (spec_l04Reduce.l1 k2 y318 ji26 x6_1 t320 (wrap64 (x9_2 + 1)))) else (spec_l04Reduce.l1 k2 y318 ji26 x6_1 false (wrap64 (x9_2 + 1)))) = some (r1, r2, r3, r4, r5) := by first | (rw [hy318]; with_reducible exact H) | (have H2_ := (Option.bind_some _ _).symm.trans H; rw [hy318]; with_reducible exact H2_) | (have H2_ := (Option.bind_some _ _).symm.trans H; with_reducible exact H2_) | with_reducible exact H | (rw [hy318]; exact H) | exact H
          have Ny318 := Aside0.mk hy318
          clear hy318
          by_cases c32 : x8_2 = true
          ·subst c32
           have H1 : ((spec_l01In.f (rd y318 x9_2) (-1000) 1000).bind fun t320 => (spec_l04Reduce.l1 k2 y318 ji26 x6_1 t320 (wrap64 (x9_2 + 1)))) = some (r1, r2, r3, r4, r5) := by rw [if_pos rfl] at H; exact H
           clear H
           have H := H1
           clear H1
           replace H := ob_ H
           obtain ⟨t320, A330, H⟩ := H
           have A33 := Aside0.mk A330
           clear A330
           have H' := Aside0.mk H
           clear H
           obtain ⟨Ao34, co34, eo34⟩ := Kd.R_slice HO_4.out
           subst eo34
           have p317 : 0 ≤ (x9_2 : Int) := od_
           have q317 : x9_2 < (x4_2.length : Int) := od_
           obtain ⟨ad317, e317, hx317_0⟩ := Kd.at_int (Kd.R_reads' HO_4.out).2.2 x9_2 p317 q317
           cases e317
           replace p317 := eq_true p317
           replace q317 := eq_true q317
           have p31 : 0 ≤ (x9_2 : Int) := od_
           have q31 : (x9_2 : Int) < ((x4_2.length : Int) : Int) := od_
           obtain ⟨go31, co31, eo31, gb31, gl31, cl31, HG31⟩ := Kd.R_form HO_4.out (by omega)
           (first | cases eo31 | (injection eo31 with ea_ en_ ec_; (first | subst ea_ | (injection ea_ with ea_; subst ea_)); subst ec_; clear en_))
           have GB31 := Aside0.mk gb31
           have GG31 := Aside0.mk HG31
           clear gb31 gl31 HG31
           (first | simp only [add_plain] at hx317_0 | skip)
           obtain ⟨hx31_0, hf31_0⟩ := Kd.R_celln 0 HO_4.out (x9_2 : Int) p31 q31
           replace p31 := eq_true p31
           replace q31 := eq_true q31
           have HP35 := Kd.R_putg HO_4.out (x9_2 : Int) (wrap64 ((wrap64 (Int.tdiv (rd x4_2 x9_2) ji26)) * x6_1))
           go_wp2_with (first | ((with_reducible refine gate_store (t := 2) (p := 81) rfl ?_); refine store_event (t := 2) (p := 81) (v := ?vo_w36) (w1 := (wr.setCell ⟨go31, (x9_2 : Int).toNat, none⟩ (.int .i64 (wrap64 ((wrap64 (Int.tdiv (rd x4_2 x9_2) ji26)) * x6_1))))) ?hg ?ho ?hn ?hr ?_; (case ho => rfl); (case hg => rfl); (case hn => rfl); (case hr => first | (go_simp; done) | (go_simp; rfl)); intro w36 hw; have hg : wr.grownBy w36 (some go31) := (by rw [hw]; exact HP35.2); have hp_ : Kd.R (Kd.int .i64) 2 w36 w.heap.size (fun _ => True) (.slice (some ⟨go31, 0, none⟩) x4_2.length co34) y318 := (by rw [hw, Ny318.out]; exact HP35.1); clear HP35; replace BK305 := Aside0.mk (blk_grown (g := gb305) (o := .cells #[.int .i64 a0_0, .int .i64 a0_1, .int .i64 a0_2, .int .i64 a0_3] 46 (0, 0)) (bl_ BK305).out hg (Kd.R_ne HO_4.out BK305.out (by decide))); replace BK306 := Aside0.mk (blk_grown (g := gb306) (o := .cells #[.int .i64 0, .int .i64 0, .int .i64 0, .int .i64 0] 46 (0, 0)) (bl_ BK306).out hg (Kd.R_ne HO_4.out BK306.out (by decide))); replace HO_4 := Aside0.mk (hp_); replace HB := Aside0.mk ((by rw [hw]; exact below_set (HB.out) GB31.out : Below w.heap.size w w36)); clear hg hw hp_; have p319 : 0 ≤ (x9_2 : Int) := od_; have q319 : x9_2 < (y318.length : Int) := (by have h_ : (x9_2 : Int) < ((x4_2.length : Int) : Int) := od_; first | (have e_ := (Kd.R_reads' HO_4.out).1; omega) | simpa only [Ny318.out, List.length_set] using h_); have ql319 : ((x9_2 : Int) < ((x4_2.length : Int) : Int)) = True := eq_true od_; obtain ⟨ad319, e319, hx319_0⟩ := Kd.at_int (Kd.R_reads' HO_4.out).2.2 x9_2 p319 q319; obtain rfl : (⟨go31, 0, none⟩ : Addr) = ad319 := (by injection e319); (first | simp only [add_plain] at hx319_0 | simp only [add_at] at hx319_0 | simp only [Addr.add, Nat.zero_add] at hx319_0 | skip); replace p319 := eq_true p319; replace q319 := eq_true q319) | (go_at_call 109; (with_reducible refine (spec_l01In.calls (rd y318 x9_2) (-1000) 1000 t320 _ A33.out).mono ?_); rintro e w' ⟨rfl, ⟨nd, rfl⟩⟩))
           go_roundg k2
           case measure => have := HK1.out; have := HK2.out; omega
           case rel => exact ⟨(y318), (t320), (wrap64 (x9_2 + 1)), en_, en_, H', ⟨by have := HK1.out; have := HK2.out; omega⟩, ⟨by (with_reducible repeat (first | apply Kd.R_alloc | apply Kd.R_drewN | apply Kd.R_drew)); exact HO_4.out⟩, bl_ BK305, bl_ BK306, bw_ HB⟩
          ·replace c32 := Bool.eq_false_iff.mpr c32
           subst c32
           have H1 : (spec_l04Reduce.l1 k2 y318 ji26 x6_1 false (wrap64 (x9_2 + 1))) = some (r1, r2, r3, r4, r5) := by rw [if_neg (show ¬ (false = true) by decide)] at H; exact H
           clear H
           have H := H1
           clear H1
           have H' := Aside0.mk H
           clear H
           obtain ⟨Ao37, co37, eo37⟩ := Kd.R_slice HO_4.out
           subst eo37
           have p317 : 0 ≤ (x9_2 : Int) := od_
           have q317 : x9_2 < (x4_2.length : Int) := od_
           obtain ⟨ad317, e317, hx317_0⟩ := Kd.at_int (Kd.R_reads' HO_4.out).2.2 x9_2 p317 q317
           cases e317
           replace p317 := eq_true p317
           replace q317 := eq_true q317
           have p31 : 0 ≤ (x9_2 : Int) := od_
           have q31 : (x9_2 : Int) < ((x4_2.length : Int) : Int) := od_
           obtain ⟨go31, co31, eo31, gb31, gl31, cl31, HG31⟩ := Kd.R_form HO_4.out (by omega)
           (first | cases eo31 | (injection eo31 with ea_ en_ ec_; (first | subst ea_ | (injection ea_ with ea_; subst ea_)); subst ec_; clear en_))
           have GB31 := Aside0.mk gb31
           have GG31 := Aside0.mk HG31
           clear gb31 gl31 HG31
           (first | simp only [add_plain] at hx317_0 | skip)
           obtain ⟨hx31_0, hf31_0⟩ := Kd.R_celln 0 HO_4.out (x9_2 : Int) p31 q31
           replace p31 := eq_true p31
           replace q31 := eq_true q31
           have HP38 := Kd.R_putg HO_4.out (x9_2 : Int) (wrap64 ((wrap64 (Int.tdiv (rd x4_2 x9_2) ji26)) * x6_1))
           go_wp2_with (first | ((with_reducible refine gate_store (t := 2) (p := 81) rfl ?_); refine store_event (t := 2) (p := 81) (v := ?vo_w39) (w1 := (wr.setCell ⟨go31, (x9_2 : Int).toNat, none⟩ (.int .i64 (wrap64 ((wrap64 (Int.tdiv (rd x4_2 x9_2) ji26)) * x6_1))))) ?hg ?ho ?hn ?hr ?_; (case ho => rfl); (case hg => rfl); (case hn => rfl); (case hr => first | (go_simp; done) | (go_simp; rfl)); intro w39 hw; have hg : wr.grownBy w39 (some go31) := (by rw [hw]; exact HP38.2); have hp_ : Kd.R (Kd.int .i64) 2 w39 w.heap.size (fun _ => True) (.slice (some ⟨go31, 0, none⟩) x4_2.length co37) y318 := (by rw [hw, Ny318.out]; exact HP38.1); clear HP38; replace BK305 := Aside0.mk (blk_grown (g := gb305) (o := .cells #[.int .i64 a0_0, .int .i64 a0_1, .int .i64 a0_2, .int .i64 a0_3] 46 (0, 0)) (bl_ BK305).out hg (Kd.R_ne HO_4.out BK305.out (by decide))); replace BK306 := Aside0.mk (blk_grown (g := gb306) (o := .cells #[.int .i64 0, .int .i64 0, .int .i64 0, .int .i64 0] 46 (0, 0)) (bl_ BK306).out hg (Kd.R_ne HO_4.out BK306.out (by decide))); replace HO_4 := Aside0.mk (hp_); replace HB := Aside0.mk ((by rw [hw]; exact below_set (HB.out) GB31.out : Below w.heap.size w w39)); clear hg hw hp_))
           go_roundg k2
           case measure => have := HK1.out; have := HK2.out; omega
           case rel => exact ⟨(y318), (false), (wrap64 (x9_2 + 1)), en_, en_, H', ⟨by have := HK1.out; have := HK2.out; omega⟩, ⟨by (with_reducible repeat (first | apply Kd.R_alloc | apply Kd.R_drewN | apply Kd.R_drew)); exact HO_4.out⟩, bl_ BK305, bl_ BK306, bw_ HB⟩
        ·rw [if_neg c29] at H
         exact absurd H (by simp)
       ·rw [if_neg c28] at H
        exact absurd H (by simp)
      ·rw [if_neg c27] at H
       have c27b0 : decide (x9_2 < 4) = false := decide_eq_false c27
       clear c27
       by_cases c40 : 0 < (x4_2.length : Int)
       ·rw [if_pos c40] at H
        have c40b0 : decide (0 < (x4_2.length : Int)) = true := decide_eq_true c40
        have c40b1 : decide (0 < x4_2.length) = true := decide_eq_true (by omega)
        clear c40
        by_cases c41 : 1 < (x4_2.length : Int)
        ·rw [if_pos c41] at H
         have c41b0 : decide (1 < (x4_2.length : Int)) = true := decide_eq_true c41
         have c41b1 : decide (1 < x4_2.length) = true := decide_eq_true (by omega)
         clear c41
         by_cases c42 : 2 < (x4_2.length : Int)
         ·rw [if_pos c42] at H
          have c42b0 : decide (2 < (x4_2.length : Int)) = true := decide_eq_true c42
          have c42b1 : decide (2 < x4_2.length) = true := decide_eq_true (by omega)
          clear c42
          by_cases c43 : 3 < (x4_2.length : Int)
          ·rw [if_pos c43] at H
           have c43b0 : decide (3 < (x4_2.length : Int)) = true := decide_eq_true c43
           have c43b1 : decide (3 < x4_2.length) = true := decide_eq_true (by omega)
           clear c43
           simp only [Option.some.injEq, Prod.mk.injEq] at H
           obtain ⟨rfl, rfl, rfl, rfl, rfl⟩ := H
           try go_wp2
           replace HO_4 := Aside0.mk (Kd.R_drew HO_4.out)
           replace BK305 := Aside0.mk (blk_drew BK305.out)
           replace BK306 := Aside0.mk (blk_drew BK306.out)
           replace HB := Aside0.mk (below_drew1 HB.out)
           obtain ⟨Ao45, co45, eo45⟩ := Kd.R_slice HO_4.out
           (first | subst eo45 | (injection eo45 with f1_ f2_ f3_; have f4_ := f1_.symm; have f5_ := f3_.symm; clear f1_ f2_ f3_; subst f4_; subst f5_))
           have p321 : 0 ≤ (0 : Int) := (by omega)
           have q321 : 0 < (x4_2.length : Int) := od_
           obtain ⟨ad321, e321, hx321_0⟩ := Kd.at_int (Kd.R_reads' HO_4.out).2.2 0 p321 q321
           cases e321
           have qi321 : (0 < x4_2.length) = True := eq_true (by omega)
           (try rw [show ((0 : Int)).toNat = 0 from rfl] at hx321_0)
           (try rw [Addr.add_zero'] at hx321_0)
           replace p321 := eq_true p321
           replace q321 := eq_true q321
           have p322 : 0 ≤ (1 : Int) := (by omega)
           have q322 : 1 < (x4_2.length : Int) := od_
           obtain ⟨ad322, e322, hx322_0⟩ := Kd.at_int (Kd.R_reads' HO_4.out).2.2 1 p322 q322
           obtain rfl : ad321 = ad322 := (by injection e322)
           (try simp only [show (1 : Int).toNat = 1 from rfl, Nat.reduceMul, Nat.reduceEqDiff, Go.Addr.add, ↓reduceIte] at hx322_0)
           have qi322 : (1 < x4_2.length) = True := eq_true (by omega)
           (try rw [show ((1 : Int)).toNat = 1 from rfl] at hx322_0)
           replace p322 := eq_true p322
           replace q322 := eq_true q322
           have p323 : 0 ≤ (2 : Int) := (by omega)
           have q323 : 2 < (x4_2.length : Int) := od_
           obtain ⟨ad323, e323, hx323_0⟩ := Kd.at_int (Kd.R_reads' HO_4.out).2.2 2 p323 q323
           obtain rfl : ad321 = ad323 := (by injection e323)
           (try simp only [show (2 : Int).toNat = 2 from rfl, Nat.reduceMul, Nat.reduceEqDiff, Go.Addr.add, ↓reduceIte] at hx323_0)
           have qi323 : (2 < x4_2.length) = True := eq_true (by omega)
           (try rw [show ((2 : Int)).toNat = 2 from rfl] at hx323_0)
           replace p323 := eq_true p323
           replace q323 := eq_true q323
           have p324 : 0 ≤ (3 : Int) := (by omega)
           have q324 : 3 < (x4_2.length : Int) := od_
           obtain ⟨ad324, e324, hx324_0⟩ := Kd.at_int (Kd.R_reads' HO_4.out).2.2 3 p324 q324
           obtain rfl : ad321 = ad324 := (by injection e324)
           (try simp only [show (3 : Int).toNat = 3 from rfl, Nat.reduceMul, Nat.reduceEqDiff, Go.Addr.add, ↓reduceIte] at hx324_0)
           have qi324 : (3 < x4_2.length) = True := eq_true (by omega)
           (try rw [show ((3 : Int)).toNat = 3 from rfl] at hx324_0)
           replace p324 := eq_true p324
           replace q324 := eq_true q324
           refine start_ (n := 18) (S := fun w' => w'.cell? ad321 = some (.int .i64 (rd x4_2 0)) ∧ w'.cell? ⟨ad321.block, ad321.off + 1, none⟩ = some (.int .i64 (rd x4_2 1)) ∧ w'.cell? ⟨ad321.block, ad321.off + 2, none⟩ = some (.int .i64 (rd x4_2 2)) ∧ w'.cell? ⟨ad321.block, ad321.off + 3, none⟩ = some (.int .i64 (rd x4_2 3))) (ds := []) (bv_ 18 0) (by kernel_rfl) rfl rfl ⟨hx321_0, hx322_0, hx323_0, hx324_0⟩ (fun hHeld => ?_); refine with_tabW spec_l04Reduce.tab16 spec_l04Reduce.bits16 (fun HT_ HW_ => ?_)
           generalize wr.drew = w44 at HO_4 BK305 BK306 HB hx321_0 hx322_0 hx323_0 hx324_0 hHeld ⊢
           refine px_ HT_ 0 90 1 ?_
           refine px_ HT_ 1 91 3 ?_
           refine px_ HT_ 3 93 11 ?_
           refine px_ HT_ 4 94 27 ?_
           refine px_ HT_ 7 97 155 ?_
           refine px_ HT_ 8 98 411 ?_
           refine px_ HT_ 10 100 1435 ?_
           refine px_ HT_ 11 101 3483 ?_
           refine px_ HT_ 15 105 36251 ?_
           refine ta_ HT_ HW_ 2 (some 92) (bv_ 18 36255) hHeld ?_ (hy := by rintro w' ⟨s0, s1, s2, s3⟩; go_simp; with_reducible rfl)
           refine ta_ HT_ HW_ 5 (some 95) (bv_ 18 36287) hHeld ?_ (hy := by rintro w' ⟨s0, s1, s2, s3⟩; go_simp; with_reducible rfl)
           refine px_ HT_ 6 96 36351 ?_
           refine ta_ HT_ HW_ 9 (some 99) (bv_ 18 36863) hHeld ?_ (hy := by rintro w' ⟨s0, s1, s2, s3⟩; go_simp; with_reducible rfl)
           refine ta_ HT_ HW_ 12 (some 102) (bv_ 18 40959) hHeld ?_ (hy := by rintro w' ⟨s0, s1, s2, s3⟩; go_simp; with_reducible rfl)
           refine px_ HT_ 13 103 49151 ?_
           refine px_ HT_ 14 104 65535 ?_
           refine on_ HT_ 16 none (bv_ 18 131071) (fun K hK => ?_)
           have hs46 : w44.cell? ⟨gb306, 0, none⟩ = some (.int .i64 0) := (blk_cell BK306.out 0).trans rfl
           have hfs46 := blk_frozen BK306.out 0
           have hns46_0 := NB305_306.out
           have hms46_0 := NB306_305.out
           have hs47 : w44.cell? ⟨gb306, 1, none⟩ = some (.int .i64 0) := (blk_cell BK306.out 1).trans rfl
           have hfs47 := blk_frozen BK306.out 1
           have hns47_0 := NB305_306.out
           have hms47_0 := NB306_305.out
           have hs48 : w44.cell? ⟨gb306, 2, none⟩ = some (.int .i64 0) := (blk_cell BK306.out 2).trans rfl
           have hfs48 := blk_frozen BK306.out 2
           have hns48_0 := NB305_306.out
           have hms48_0 := NB306_305.out
           have hs49 : w44.cell? ⟨gb306, 3, none⟩ = some (.int .i64 0) := (blk_cell BK306.out 3).trans rfl
           have hfs49 := blk_frozen BK306.out 3
           have hns49_0 := NB305_306.out
           have hms49_0 := NB306_305.out
           refine skip_ (w1 := ?_) (by rfl) rfl ?_ ?_
           rotate_left
           ·go_simp
            rfl
           refine hK.out _ _ ⟨((cell_far (p := ⟨gb306, _, none⟩) (by first | exact Kd.own_blk (Kd.R_ne HO_4.out BK306.out (by decide)) | (rw [add_block]; exact Kd.own_blk (Kd.R_ne HO_4.out BK306.out (by decide))) | (show (Addr.add _ _).block ≠ _; rw [add_block]; exact Kd.own_blk (Kd.R_ne HO_4.out BK306.out (by decide))) | (dsimp only; exact Kd.own_blk (Kd.R_ne HO_4.out BK306.out (by decide)))) _).trans (((cell_far (p := ⟨gb306, _, none⟩) (by first | exact Kd.own_blk (Kd.R_ne HO_4.out BK306.out (by decide)) | (rw [add_block]; exact Kd.own_blk (Kd.R_ne HO_4.out BK306.out (by decide))) | (show (Addr.add _ _).block ≠ _; rw [add_block]; exact Kd.own_blk (Kd.R_ne HO_4.out BK306.out (by decide))) | (dsimp only; exact Kd.own_blk (Kd.R_ne HO_4.out BK306.out (by decide)))) _).trans (((cell_far (p := ⟨gb306, _, none⟩) (by first | exact Kd.own_blk (Kd.R_ne HO_4.out BK306.out (by decide)) | (rw [add_block]; exact Kd.own_blk (Kd.R_ne HO_4.out BK306.out (by decide))) | (show (Addr.add _ _).block ≠ _; rw [add_block]; exact Kd.own_blk (Kd.R_ne HO_4.out BK306.out (by decide))) | (dsimp only; exact Kd.own_blk (Kd.R_ne HO_4.out BK306.out (by decide)))) _).trans (((cell_far (p := ⟨gb306, _, none⟩) (by first | exact Kd.own_blk (Kd.R_ne HO_4.out BK306.out (by decide)) | (rw [add_block]; exact Kd.own_blk (Kd.R_ne HO_4.out BK306.out (by decide))) | (show (Addr.add _ _).block ≠ _; rw [add_block]; exact Kd.own_blk (Kd.R_ne HO_4.out BK306.out (by decide))) | (dsimp only; exact Kd.own_blk (Kd.R_ne HO_4.out BK306.out (by decide)))) _).trans (hHeld.1)))))))), ((cell_far (p := ⟨gb306, _, none⟩) (by first | exact Kd.own_blk (Kd.R_ne HO_4.out BK306.out (by decide)) | (rw [add_block]; exact Kd.own_blk (Kd.R_ne HO_4.out BK306.out (by decide))) | (show (Addr.add _ _).block ≠ _; rw [add_block]; exact Kd.own_blk (Kd.R_ne HO_4.out BK306.out (by decide))) | (dsimp only; exact Kd.own_blk (Kd.R_ne HO_4.out BK306.out (by decide)))) _).trans (((cell_far (p := ⟨gb306, _, none⟩) (by first | exact Kd.own_blk (Kd.R_ne HO_4.out BK306.out (by decide)) | (rw [add_block]; exact Kd.own_blk (Kd.R_ne HO_4.out BK306.out (by decide))) | (show (Addr.add _ _).block ≠ _; rw [add_block]; exact Kd.own_blk (Kd.R_ne HO_4.out BK306.out (by decide))) | (dsimp only; exact Kd.own_blk (Kd.R_ne HO_4.out BK306.out (by decide)))) _).trans (((cell_far (p := ⟨gb306, _, none⟩) (by first | exact Kd.own_blk (Kd.R_ne HO_4.out BK306.out (by decide)) | (rw [add_block]; exact Kd.own_blk (Kd.R_ne HO_4.out BK306.out (by decide))) | (show (Addr.add _ _).block ≠ _; rw [add_block]; exact Kd.own_blk (Kd.R_ne HO_4.out BK306.out (by decide))) | (dsimp only; exact Kd.own_blk (Kd.R_ne HO_4.out BK306.out (by decide)))) _).trans (((cell_far (p := ⟨gb306, _, none⟩) (by first | exact Kd.own_blk (Kd.R_ne HO_4.out BK306.out (by decide)) | (rw [add_block]; exact Kd.own_blk (Kd.R_ne HO_4.out BK306.out (by decide))) | (show (Addr.add _ _).block ≠ _; rw [add_block]; exact Kd.own_blk (Kd.R_ne HO_4.out BK306.out (by decide))) | (dsimp only; exact Kd.own_blk (Kd.R_ne HO_4.out BK306.out (by decide)))) _).trans (hHeld.2.1)))))))), ((cell_far (p := ⟨gb306, _, none⟩) (by first | exact Kd.own_blk (Kd.R_ne HO_4.out BK306.out (by decide)) | (rw [add_block]; exact Kd.own_blk (Kd.R_ne HO_4.out BK306.out (by decide))) | (show (Addr.add _ _).block ≠ _; rw [add_block]; exact Kd.own_blk (Kd.R_ne HO_4.out BK306.out (by decide))) | (dsimp only; exact Kd.own_blk (Kd.R_ne HO_4.out BK306.out (by decide)))) _).trans (((cell_far (p := ⟨gb306, _, none⟩) (by first | exact Kd.own_blk (Kd.R_ne HO_4.out BK306.out (by decide)) | (rw [add_block]; exact Kd.own_blk (Kd.R_ne HO_4.out BK306.out (by decide))) | (show (Addr.add _ _).block ≠ _; rw [add_block]; exact Kd.own_blk (Kd.R_ne HO_4.out BK306.out (by decide))) | (dsimp only; exact Kd.own_blk (Kd.R_ne HO_4.out BK306.out (by decide)))) _).trans (((cell_far (p := ⟨gb306, _, none⟩) (by first | exact Kd.own_blk (Kd.R_ne HO_4.out BK306.out (by decide)) | (rw [add_block]; exact Kd.own_blk (Kd.R_ne HO_4.out BK306.out (by decide))) | (show (Addr.add _ _).block ≠ _; rw [add_block]; exact Kd.own_blk (Kd.R_ne HO_4.out BK306.out (by decide))) | (dsimp only; exact Kd.own_blk (Kd.R_ne HO_4.out BK306.out (by decide)))) _).trans (((cell_far (p := ⟨gb306, _, none⟩) (by first | exact Kd.own_blk (Kd.R_ne HO_4.out BK306.out (by decide)) | (rw [add_block]; exact Kd.own_blk (Kd.R_ne HO_4.out BK306.out (by decide))) | (show (Addr.add _ _).block ≠ _; rw [add_block]; exact Kd.own_blk (Kd.R_ne HO_4.out BK306.out (by decide))) | (dsimp only; exact Kd.own_blk (Kd.R_ne HO_4.out BK306.out (by decide)))) _).trans (hHeld.2.2.1)))))))), ((cell_far (p := ⟨gb306, _, none⟩) (by first | exact Kd.own_blk (Kd.R_ne HO_4.out BK306.out (by decide)) | (rw [add_block]; exact Kd.own_blk (Kd.R_ne HO_4.out BK306.out (by decide))) | (show (Addr.add _ _).block ≠ _; rw [add_block]; exact Kd.own_blk (Kd.R_ne HO_4.out BK306.out (by decide))) | (dsimp only; exact Kd.own_blk (Kd.R_ne HO_4.out BK306.out (by decide)))) _).trans (((cell_far (p := ⟨gb306, _, none⟩) (by first | exact Kd.own_blk (Kd.R_ne HO_4.out BK306.out (by decide)) | (rw [add_block]; exact Kd.own_blk (Kd.R_ne HO_4.out BK306.out (by decide))) | (show (Addr.add _ _).block ≠ _; rw [add_block]; exact Kd.own_blk (Kd.R_ne HO_4.out BK306.out (by decide))) | (dsimp only; exact Kd.own_blk (Kd.R_ne HO_4.out BK306.out (by decide)))) _).trans (((cell_far (p := ⟨gb306, _, none⟩) (by first | exact Kd.own_blk (Kd.R_ne HO_4.out BK306.out (by decide)) | (rw [add_block]; exact Kd.own_blk (Kd.R_ne HO_4.out BK306.out (by decide))) | (show (Addr.add _ _).block ≠ _; rw [add_block]; exact Kd.own_blk (Kd.R_ne HO_4.out BK306.out (by decide))) | (dsimp only; exact Kd.own_blk (Kd.R_ne HO_4.out BK306.out (by decide)))) _).trans (((cell_far (p := ⟨gb306, _, none⟩) (by first | exact Kd.own_blk (Kd.R_ne HO_4.out BK306.out (by decide)) | (rw [add_block]; exact Kd.own_blk (Kd.R_ne HO_4.out BK306.out (by decide))) | (show (Addr.add _ _).block ≠ _; rw [add_block]; exact Kd.own_blk (Kd.R_ne HO_4.out BK306.out (by decide))) | (dsimp only; exact Kd.own_blk (Kd.R_ne HO_4.out BK306.out (by decide)))) _).trans (hHeld.2.2.2))))))))⟩ (fun hHeld => ?_)
           clear hK K
           refine px_ HT_ 17 3 262143 ?_
           refine done_ (done_of HT_.out (by kernel_rfl)) ?_
           try go_wp2
           refine bodyPost_ret (results_ct rfl _ _ gb306 46 #[.int .i64 (rd x4_2 0), .int .i64 (rd x4_2 1), .int .i64 (rd x4_2 2), .int .i64 (rd x4_2 3)] (0, 0) _ rfl (bp_ BK306).out Try.underlying46 rfl (by kernel_rfl)) rfl ?_
           exact ⟨by first | rfl | (simp [errW_none, errW_some] <;> rfl) | (simp only [← hji26]; first | rfl | (simp [errW_none, errW_some] <;> rfl)) | (simp [*, errW_none, errW_some] <;> rfl), (bw_ HB).out⟩
          ·rw [if_neg c43] at H
           exact absurd H (by simp)
         ·rw [if_neg c42] at H
          exact absurd H (by simp)
        ·rw [if_neg c41] at H
         exact absurd H (by simp)
       ·rw [if_neg c40] at H
        exact absurd H (by simp)
end Go.Proofs.Ytgoeelhiffbjlaa.QT
