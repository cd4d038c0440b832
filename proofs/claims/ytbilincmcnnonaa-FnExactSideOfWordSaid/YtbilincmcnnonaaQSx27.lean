import Derived.Test.YtbilincmcnnonaaQSx8
import Derived.Test.YtbilincmcnnonaaQSx26
namespace Go.Proofs.Ytbilincmcnnonaa.QS
open Go.RowKit Go.Proofs.YtbilincmcnnonaaW.PrintWords Go.Proofs.YtbilincmcnnonaaW.PrintLast Go.Proofs.YtbilincmcnnonaaW.PrintMore
attribute [local go_sem] isSome_setCell max2_int min2_int max_two min_two max_three min_three max_four min_four
set_option linter.unusedVariables false
set_option linter.unusedSimpArgs false

/-! ### spec_l04Reduce: function 77 -/
mutual
def spec_l04Reduce.l0 : Nat → List Int → Int → Int → Int → Option (Int × Int × Int × Int × Bool)
 | 0, _, _, _, _ => none
 | k + 1, x4, x5, x6, x7 => if x7 < 4 then (if 0 ≤ x7 then (if x7 < (x4.length : Int) then ((spec_l01Gcd.f k x5 (mx (rd x4 x7) (wrap64 (-(rd x4 x7))))).bind fun t196 => (if x6 = 0 then (if (rd x4 x7) = 0 then (spec_l04Reduce.l0 k x4 t196 x6 (wrap64 (x7 + 1))) else (if (mx (rd x4 x7) (wrap64 (-(rd x4 x7)))) = 0 then (none) else (spec_l04Reduce.l0 k x4 t196 (wrap64 (Int.tdiv (rd x4 x7) (mx (rd x4 x7) (wrap64 (-(rd x4 x7)))))) (wrap64 (x7 + 1))))) else (spec_l04Reduce.l0 k x4 t196 x6 (wrap64 (x7 + 1))))) else (none)) else (none)) else (spec_l04Reduce.l1 k x4 (mx x5 (wrap64 (-x5))) x6 true 0)
def spec_l04Reduce.l1 : Nat → List Int → Int → Int → Bool → Int → Option (Int × Int × Int × Int × Bool)
 | 0, _, _, _, _, _ => none
 | k + 1, x4, x5, x6, x8, x9 => if x9 < 4 then (if 0 ≤ x9 then (if x9 < (x4.length : Int) then (if x5 = 0 then (none) else ((some (x4.set (x9 : Int).toNat (wrap64 ((wrap64 (Int.tdiv (rd x4 x9) x5)) * x6)) : List Int)).bind fun y202 => (if x8 = true then ((spec_l01In.f (rd y202 x9) (-1000) 1000).bind fun t204 => (spec_l04Reduce.l1 k y202 x5 x6 t204 (wrap64 (x9 + 1)))) else (spec_l04Reduce.l1 k y202 x5 x6 false (wrap64 (x9 + 1)))))) else (none)) else (none)) else (if 0 < (x4.length : Int) then (if 1 < (x4.length : Int) then (if 2 < (x4.length : Int) then (if 3 < (x4.length : Int) then (some (rd x4 0, rd x4 1, rd x4 2, rd x4 3, x8)) else (none)) else (none)) else (none)) else (none))
end
def spec_l04Reduce.f (k : Nat) (a0_0 : Int) (a0_1 : Int) (a0_2 : Int) (a0_3 : Int) : Option (Int × Int × Int × Int × Bool) := spec_l04Reduce.l0 k (([a0_0, a0_1, a0_2, a0_3] : List Int)) 0 0 0
def spec_l04Reduce.T6 : Bool × List (List Nat × List Nat) := (true, [([], []), ([], []), ([], []), ([1, 2], [1, 2]), ([3], [3]), ([], []), ([], []), ([5, 6], [5, 6]), ([7], [7]), ([8], [8]), ([4, 9], [4, 9]), ([0, 10], [0, 10]), ([11, 11, 0, 1, 2, 3, 4, 5, 6, 7, 8, 9, 10, 11], [0, 11])])
def spec_l04Reduce.B6 : List Nat := [0, 0, 0, 6, 14, 0, 0, 96, 224, 480, 1022, 2047, 4095]
theorem spec_l04Reduce.tab6 : rtab .any (opsOf Try.f77 6) = spec_l04Reduce.T6 := by kernel_rfl
theorem spec_l04Reduce.bits6 : waitsOk spec_l04Reduce.T6.2 spec_l04Reduce.B6 = true := by kernel_rfl
def spec_l04Reduce.T8 : Bool × List (List Nat × List Nat) := (true, [([], []), ([], []), ([0, 1], [0, 1]), ([2], [2]), ([], []), ([], []), ([4, 5], [4, 5]), ([6], [6]), ([], []), ([], []), ([8, 9], [8, 9]), ([10], [10]), ([11], [11]), ([7, 12], [7, 12]), ([3, 13], [3, 13]), ([14, 0, 1, 2, 3, 4, 5, 6, 7, 8, 9, 10, 11, 12, 13, 14], [14])])
def spec_l04Reduce.B8 : List Nat := [0, 0, 3, 7, 0, 0, 48, 112, 0, 0, 768, 1792, 3840, 8176, 16383, 32767]
theorem spec_l04Reduce.tab8 : rtab .any (opsOf Try.f77 8) = spec_l04Reduce.T8 := by kernel_rfl
theorem spec_l04Reduce.bits8 : waitsOk spec_l04Reduce.T8.2 spec_l04Reduce.B8 = true := by kernel_rfl
def spec_l04Reduce.T16 : Bool × List (List Nat × List Nat) := (true, [([], []), ([0], [0]), ([1], [1]), ([], []), ([3], [3]), ([4], [4]), ([2, 5], [2, 5]), ([], []), ([7], [7]), ([8], [8]), ([], []), ([10], [10]), ([11], [11]), ([9, 12], [9, 12]), ([6, 13], [6, 13]), ([], []), ([14, 0, 1, 2, 3, 4, 5, 6, 7, 8, 9, 10, 11, 12, 13, 14], [14]), ([15, 16, 0, 1, 2, 3, 4, 5, 6, 7, 8, 9, 10, 11, 12, 13, 14, 15, 16], [15])])
def spec_l04Reduce.B16 : List Nat := [0, 1, 3, 0, 8, 24, 63, 0, 128, 384, 0, 1024, 3072, 8064, 16383, 0, 32767, 131071]
theorem spec_l04Reduce.tab16 : rtab .any (opsOf Try.f77 16) = spec_l04Reduce.T16 := by kernel_rfl
theorem spec_l04Reduce.bits16 : waitsOk spec_l04Reduce.T16.2 spec_l04Reduce.B16 = true := by kernel_rfl
set_option maxHeartbeats 8000000 in
set_option maxRecDepth 100000 in
theorem spec_l04Reduce.calls (k : Nat) (a0_0 : Int) (a0_1 : Int) (a0_2 : Int) (a0_3 : Int) (r1 : Int) (r2 : Int) (r3 : Int) (r4 : Int) (r5 : Bool) (w : World) (h : spec_l04Reduce.f k a0_0 a0_1 a0_2 a0_3 = some (r1, r2, r3, r4, r5)) :
  Calls Try.prog 77 #[.agg #[.int .i64 a0_0, .int .i64 a0_1, .int .i64 a0_2, .int .i64 a0_3]] w fun e w' => e = .returned (.tuple #[.agg #[.int .i64 r1, .int .i64 r2, .int .i64 r3, .int .i64 r4], .bool r5]) ∧ Below w.heap.size w w' := by
 have hu26 := Try.underlying26
 have hu24 := Try.underlying24
 have HB := Aside0.mk (Below.refl w.heap.size w)
 have H : (spec_l04Reduce.l0 k (([a0_0, a0_1, a0_2, a0_3] : List Int)) 0 0 0) = some (r1, r2, r3, r4, r5) := h
 clear h
 obtain ⟨y191, hy191⟩ : ∃ y_ : List Int, y_ = (([a0_0, a0_1, a0_2, a0_3] : List Int)) := ⟨_, rfl⟩
 replace H : (spec_l04Reduce.l0 k y191 0 0 0) = some (r1, r2, r3, r4, r5) := by first | (rw [hy191]; with_reducible exact H) | (have H2_ := (Option.bind_some _ _).symm.trans H; rw [hy191]; with_reducible exact H2_) | (have H2_ := (Option.bind_some _ _).symm.trans H; with_reducible exact H2_) | with_reducible exact H | (rw [hy191]; exact H) | exact H
 have Ny191 := Aside0.mk hy191
 clear hy191
 have H' := Aside0.mk H
 clear H
 go_enter Try.func77, Try.ntmps77
 go_wp2_with (first | (refine bx_ 1 #[.int .i64 a0_0, .int .i64 a0_1, .int .i64 a0_2, .int .i64 a0_3] 26 ?_; intro gb189 hg w2 hbox hb; have BK189 := Aside0.mk (hbox); have GW189 := bs_ HB hg; have GE189 := bs_ HB hg; replace HB := bt_ HB hb; clear hb hbox hg) | (refine bx_ 2 #[.int .i64 0, .int .i64 0, .int .i64 0, .int .i64 0] 26 ?_; intro gb190 hg w3 hbox hb; have BK190 := Aside0.mk (hbox); have GW190 := bs_ HB hg; have GE190 := bs_ HB hg; have NB189_190 := bm_ BK189 hg; have NB190_189 := bn_ BK189 hg; replace BK189 := bb_ BK189 hb; replace HB := bt_ HB hb; clear hb hbox hg; have hnb4 := NB189_190.out; have hnc4 := NB190_189.out; obtain ⟨hcz5_0, hcz5_1, hcz5_2, hcz5_3, hfz5_0, hfz5_1, hfz5_2, hfz5_3⟩ := ch4_ BK189) | ((with_reducible refine gate_dst (N := 22) rfl ?_); refine Kd.R_lit (Kd.int .i64) _ 2 ?hg (N := 22) ?hd (xs := ([a0_0, a0_1, a0_2, a0_3] : List Int)) (inner := [.int .i64 a0_0, .int .i64 a0_1, .int .i64 a0_2, .int .i64 a0_3]) (ok := fun _ => True) (okp := fun _ => True) ?hr ?hp (fun _ hk => hk) trivial (Below.refl _ _) (Nat.le_refl _) (by simp) ?_; (case hd => rfl); (case hg => rfl); (case hr => first | (go_simp; done) | (go_simp; rfl)); (case hp => exact (Reps.one (show Kd.M (Kd.int .i64) _ _ _ a0_0 [.int .i64 a0_0] from rfl) (Reps.one (show Kd.M (Kd.int .i64) _ _ _ a0_1 [.int .i64 a0_1] from rfl) (Reps.one (show Kd.M (Kd.int .i64) _ _ _ a0_2 [.int .i64 a0_2] from rfl) (Reps.one (show Kd.M (Kd.int .i64) _ _ _ a0_3 [.int .i64 a0_3] from rfl) (Reps.none _ _)))))); intro v192 w6 ho7 hb hg_ hnew_; clear hg_ hnew_; (first | rw [← Ny191.out] at ho7 | (simp only [Int.reduceToNat] at ho7; rw [← Ny191.out] at ho7)); have HO193 := Aside0.mk (Kd.R_lower ho7 (below_size (bw_ HB).out)); replace BK189 := bb_ BK189 hb; replace BK190 := bb_ BK190 hb; replace HB := bt_ HB hb; clear hb ho7))
 go_loopg [5, 6, 7] k (fun kq v5 v6 v7 w' => ∃ (x5_1 : Int) (x6_1 : Int) (x7_1 : Int), v5 = .int .i64 x5_1 ∧ v6 = .int .i64 x6_1 ∧ v7 = .int .i64 x7_1 ∧ Aside0 (spec_l04Reduce.l0 kq y191 x5_1 x6_1 x7_1 = some (r1, r2, r3, r4, r5)) ∧ Aside0 (kq ≤ k) ∧ Aside0 (Kd.R (Kd.int .i64) 2 w' w.heap.size (fun _ => True) v192 y191) ∧ Aside0 (w'.heap[gb189]? = some (.cells #[.int .i64 a0_0, .int .i64 a0_1, .int .i64 a0_2, .int .i64 a0_3] 26 (0, 0))) ∧ Aside0 (w'.heap[gb190]? = some (.cells #[.int .i64 0, .int .i64 0, .int .i64 0, .int .i64 0] 26 (0, 0))) ∧ Aside0 (Below w.heap.size w w'))
 case atStart => exact ⟨(0), (0), (0), en_, en_, en_, H', ⟨Nat.le_refl _⟩, ⟨by (with_reducible repeat (first | apply Kd.R_alloc | apply Kd.R_drewN | apply Kd.R_drew)); exact HO193.out⟩, bl_ BK189, bl_ BK190, bw_ HB⟩
 case round =>
  clear H'
  try clear p2
  try clear c4
  try clear c7
  try clear hcz5_0 hcz5_1 hcz5_2 hcz5_3
  try clear hfz5_0 hfz5_1 hfz5_2 hfz5_3
  obtain ⟨x5_1, x6_1, x7_1, rfl, rfl, rfl, HA, HK1, HO_4, BK189, BK190, HB⟩ := hrel
  cases gk with
  | zero => exact absurd HA.out (by simp [spec_l04Reduce.l0])
  | succ k1 =>
   have H := HA.out
   clear HA
   simp only [spec_l04Reduce.l0] at H
   by_cases c8 : x7_1 < 4
   ·rw [if_pos c8] at H
    have c8b0 : decide (x7_1 < 4) = true := decide_eq_true c8
    clear c8
    by_cases c9 : 0 ≤ x7_1
    ·rw [if_pos c9] at H
     have c9b0 : decide (0 ≤ x7_1) = true := decide_eq_true c9
     clear c9
     by_cases c10 : x7_1 < (y191.length : Int)
     ·rw [if_pos c10] at H
      have c10b0 : decide (x7_1 < (y191.length : Int)) = true := decide_eq_true c10
      clear c10
      obtain ⟨ji11, hji11⟩ : ∃ j_ : Int, (mx (rd y191 x7_1) (wrap64 (-(rd y191 x7_1)))) = j_ := ⟨_, rfl⟩
      replace H : ((spec_l01Gcd.f k1 x5_1 (ji11)).bind fun t196 => (if x6_1 = 0 then (if (rd y191 x7_1) = 0 then (spec_l04Reduce.l0 k1 y191 t196 x6_1 (wrap64 (x7_1 + 1))) else (if (ji11) = 0 then (none) else (spec_l04Reduce.l0 k1 y191 t196 (wrap64 (Int.tdiv (rd y191 x7_1) (ji11))) (wrap64 (x7_1 + 1))))) else (spec_l04Reduce.l0 k1 y191 t196 x6_1 (wrap64 (x7_1 + 1))))) = some (r1, r2, r3, r4, r5) := by first | (rw [hji11] at H; exact H) | (simp only [hji11] at H ⊢; exact H)
      have hji11_k : (if (rd y191 x7_1) < (IntKind.i64.wrap (-(rd y191 x7_1))) then (IntKind.i64.wrap (-(rd y191 x7_1))) else (rd y191 x7_1)) = ji11 := by simp only [i64_w]; exact hji11
      have hji11_ : (if (rd y191 x7_1) < (wrap64 (-(rd y191 x7_1))) then (wrap64 (-(rd y191 x7_1))) else (rd y191 x7_1)) = ji11 := hji11
      replace H := ob_ H
      obtain ⟨t196, A120, H⟩ := H
      have A12 := Aside0.mk A120
      clear A120
      by_cases c13 : x6_1 = 0
      ·rw [if_pos c13] at H
       have c13b0 : (x6_1 == 0) = true := beq_iff_eq.mpr c13
       have c13b1 : (x6_1 != 0) = false := bne_eq_false_iff_eq.mpr c13
       clear c13
       by_cases c14 : (rd y191 x7_1) = 0
       ·rw [if_pos c14] at H
        have c14b0 : ((rd y191 x7_1) == 0) = true := beq_iff_eq.mpr c14
        have c14b1 : ((rd y191 x7_1) != 0) = false := bne_eq_false_iff_eq.mpr c14
        clear c14
        have H' := Aside0.mk H
        clear H
        try go_wp2
        replace HO_4 := Aside0.mk (Kd.R_drew HO_4.out)
        replace BK189 := Aside0.mk (blk_drew BK189.out)
        replace BK190 := Aside0.mk (blk_drew BK190.out)
        replace HB := Aside0.mk (below_drew1 HB.out)
        obtain ⟨Ao16, co16, eo16⟩ := Kd.R_slice HO_4.out
        (first | subst eo16 | (injection eo16 with f1_ f2_ f3_; have f4_ := f1_.symm; have f5_ := f3_.symm; clear f1_ f2_ f3_; subst f4_; subst f5_))
        have p194 : 0 ≤ (x7_1 : Int) := od_
        have q194 : x7_1 < (y191.length : Int) := od_
        obtain ⟨ad194, e194, hx194_0⟩ := Kd.at_int (Kd.R_reads' HO_4.out).2.2 x7_1 p194 q194
        cases e194
        replace p194 := eq_true p194
        replace q194 := eq_true q194
        have p195 : 0 ≤ (x7_1 : Int) := od_
        have q195 : x7_1 < (y191.length : Int) := od_
        obtain ⟨ad195, e195, hx195_0⟩ := Kd.at_int (Kd.R_reads' HO_4.out).2.2 x7_1 p195 q195
        obtain rfl : ad194 = ad195 := (by injection e195)
        replace p195 := eq_true p195
        replace q195 := eq_true q195
        refine start_ (n := 13) (S := fun w' => w'.cell? (ad194.add (x7_1).toNat) = some (.int .i64 (rd y191 x7_1)) ∧ w'.cell? (ad194.add (x7_1).toNat) = some (.int .i64 (rd y191 x7_1))) (ds := []) (bv_ 13 0) (by kernel_rfl) rfl rfl ⟨hx194_0, hx195_0⟩ (fun hHeld => ?_); refine with_tabW spec_l04Reduce.tab6 spec_l04Reduce.bits6 (fun HT_ HW_ => ?_)
        generalize wr.drew = w15 at HO_4 BK189 BK190 HB hx194_0 hx195_0 hHeld ⊢
        refine pu_ HT_ 0 (some 27) (bv_ 13 1) ?_
        refine pu_ HT_ 1 (some 28) (bv_ 13 3) ?_
        refine pu_ HT_ 2 (some 29) (bv_ 13 7) ?_
        refine pu_ HT_ 3 (some 30) (bv_ 13 15) ?_
        refine pu_ HT_ 5 (some 32) (bv_ 13 47) ?_
        refine pu_ HT_ 6 (some 33) (bv_ 13 111) ?_
        refine pu_ HT_ 7 (some 34) (bv_ 13 239) ?_
        refine ta_ HT_ HW_ 4 (some 31) (bv_ 13 255) hHeld ?_ (hy := by rintro w' ⟨s0, s1⟩; go_simp; with_reducible rfl)
        refine ta_ HT_ HW_ 8 (some 35) (bv_ 13 511) hHeld ?_ (hy := by rintro w' ⟨s0, s1⟩; go_simp; with_reducible rfl)
        refine pu_ HT_ 9 (some 36) (bv_ 13 1023) ?_
        refine pu_ HT_ 10 (some 37) (bv_ 13 2047) ?_
        refine on_ HT_ 11 (some 38) (bv_ 13 4095) (fun K hK => ?_)
        refine gs_ Try.func148 #[.int .i64 x5_1, .int .i64 ji11] ?_ (hargs := by (try simp only [List.map_toArray, List.map_cons, List.map_nil]); first | done | (simp only [hji11]; rfl) | rfl | (simp only [List.length_drop, List.length_take]; rfl))
        with_reducible refine (spec_l01Gcd.calls k1 x5_1 ji11 t196 _ A12.out).mono ?_
        rintro e w17 ⟨rfl, hb⟩
        have HS0_ := (hb.cell (World.block_lt_of_cell? _ _ (hHeld.1))).trans (hHeld.1)
        have HS1_ := (hb.cell (World.block_lt_of_cell? _ _ (hHeld.2))).trans (hHeld.2)
        refine ⟨_, rfl, ?_⟩
        replace HO_4 := Aside0.mk (Kd.R_below (ra_ HO_4.out) hb)
        replace BK189 := bb_ BK189 hb
        replace BK190 := bb_ BK190 hb
        replace HB := bt_ HB hb
        (try clear hb)
        (try clear hb2)
        (try clear hk)
        (try clear hi)
        refine hK.out _ _ ⟨HS0_, HS1_⟩ (fun hHeld => ?_)
        clear hK K
        refine nm_ (some 38) ?_
        refine pu_ HT_ 12 (some 5) (bv_ 13 8191) ?_
        refine done_ (done_of HT_.out (by kernel_rfl)) ?_
        have p197 : 0 ≤ (x7_1 : Int) := od_
        have q197 : x7_1 < (y191.length : Int) := od_
        obtain ⟨ad197, e197, hx197_0⟩ := Kd.at_int (Kd.R_reads' HO_4.out).2.2 x7_1 p197 q197
        obtain rfl : ad194 = ad197 := (by injection e197)
        replace p197 := eq_true p197
        replace q197 := eq_true q197
        try go_wp2
        go_roundg k1
        case measure => have := HK1.out; omega
        case rel => exact ⟨(t196), (x6_1), (wrap64 (x7_1 + 1)), en_, en_, en_, H', ⟨by have := HK1.out; omega⟩, ⟨by (with_reducible repeat (first | apply Kd.R_alloc | apply Kd.R_drewN | apply Kd.R_drew)); exact HO_4.out⟩, bl_ BK189, bl_ BK190, bw_ HB⟩
       ·rw [if_neg c14] at H
        have c14b0 : ((rd y191 x7_1) == 0) = false := beq_eq_false_iff_ne.mpr c14
        have c14b1 : ((rd y191 x7_1) != 0) = true := bne_iff_ne.mpr c14
        by_cases c18 : (ji11) = 0
        ·rw [if_pos c18] at H
         exact absurd H (by simp)
        ·rw [if_neg c18] at H
         have c18b0 : ((ji11) == 0) = false := beq_eq_false_iff_ne.mpr c18
         have c18b1 : ((ji11) != 0) = true := bne_iff_ne.mpr c18
         have H' := Aside0.mk H
         clear H
         try go_wp2
         replace HO_4 := Aside0.mk (Kd.R_drew HO_4.out)
         replace BK189 := Aside0.mk (blk_drew BK189.out)
         replace BK190 := Aside0.mk (blk_drew BK190.out)
         replace HB := Aside0.mk (below_drew1 HB.out)
         obtain ⟨Ao20, co20, eo20⟩ := Kd.R_slice HO_4.out
         (first | subst eo20 | (injection eo20 with f1_ f2_ f3_; have f4_ := f1_.symm; have f5_ := f3_.symm; clear f1_ f2_ f3_; subst f4_; subst f5_))
         have p194 : 0 ≤ (x7_1 : Int) := od_
         have q194 : x7_1 < (y191.length : Int) := od_
         obtain ⟨ad194, e194, hx194_0⟩ := Kd.at_int (Kd.R_reads' HO_4.out).2.2 x7_1 p194 q194
         cases e194
         replace p194 := eq_true p194
         replace q194 := eq_true q194
         have p195 : 0 ≤ (x7_1 : Int) := od_
         have q195 : x7_1 < (y191.length : Int) := od_
         obtain ⟨ad195, e195, hx195_0⟩ := Kd.at_int (Kd.R_reads' HO_4.out).2.2 x7_1 p195 q195
         obtain rfl : ad194 = ad195 := (by injection e195)
         replace p195 := eq_true p195
         replace q195 := eq_true q195
         refine start_ (n := 13) (S := fun w' => w'.cell? (ad194.add (x7_1).toNat) = some (.int .i64 (rd y191 x7_1)) ∧ w'.cell? (ad194.add (x7_1).toNat) = some (.int .i64 (rd y191 x7_1))) (ds := []) (bv_ 13 0) (by kernel_rfl) rfl rfl ⟨hx194_0, hx195_0⟩ (fun hHeld => ?_); refine with_tabW spec_l04Reduce.tab6 spec_l04Reduce.bits6 (fun HT_ HW_ => ?_)
         generalize wr.drew = w19 at HO_4 BK189 BK190 HB hx194_0 hx195_0 hHeld ⊢
         refine pu_ HT_ 0 (some 27) (bv_ 13 1) ?_
         refine pu_ HT_ 1 (some 28) (bv_ 13 3) ?_
         refine pu_ HT_ 2 (some 29) (bv_ 13 7) ?_
         refine pu_ HT_ 3 (some 30) (bv_ 13 15) ?_
         refine pu_ HT_ 5 (some 32) (bv_ 13 47) ?_
         refine pu_ HT_ 6 (some 33) (bv_ 13 111) ?_
         refine pu_ HT_ 7 (some 34) (bv_ 13 239) ?_
         refine ta_ HT_ HW_ 4 (some 31) (bv_ 13 255) hHeld ?_ (hy := by rintro w' ⟨s0, s1⟩; go_simp; with_reducible rfl)
         refine ta_ HT_ HW_ 8 (some 35) (bv_ 13 511) hHeld ?_ (hy := by rintro w' ⟨s0, s1⟩; go_simp; with_reducible rfl)
         refine pu_ HT_ 9 (some 36) (bv_ 13 1023) ?_
         refine pu_ HT_ 10 (some 37) (bv_ 13 2047) ?_
         refine on_ HT_ 11 (some 38) (bv_ 13 4095) (fun K hK => ?_)
         refine gs_ Try.func148 #[.int .i64 x5_1, .int .i64 ji11] ?_ (hargs := by (try simp only [List.map_toArray, List.map_cons, List.map_nil]); first | done | (simp only [hji11]; rfl) | rfl | (simp only [List.length_drop, List.length_take]; rfl))
         with_reducible refine (spec_l01Gcd.calls k1 x5_1 ji11 t196 _ A12.out).mono ?_
         rintro e w21 ⟨rfl, hb⟩
         have HS0_ := (hb.cell (World.block_lt_of_cell? _ _ (hHeld.1))).trans (hHeld.1)
         have HS1_ := (hb.cell (World.block_lt_of_cell? _ _ (hHeld.2))).trans (hHeld.2)
         refine ⟨_, rfl, ?_⟩
         replace HO_4 := Aside0.mk (Kd.R_below (ra_ HO_4.out) hb)
         replace BK189 := bb_ BK189 hb
         replace BK190 := bb_ BK190 hb
         replace HB := bt_ HB hb
         (try clear hb)
         (try clear hb2)
         (try clear hk)
         (try clear hi)
         refine hK.out _ _ ⟨HS0_, HS1_⟩ (fun hHeld => ?_)
         clear hK K
         refine nm_ (some 38) ?_
         refine pu_ HT_ 12 (some 5) (bv_ 13 8191) ?_
         refine done_ (done_of HT_.out (by kernel_rfl)) ?_
         have p197 : 0 ≤ (x7_1 : Int) := od_
         have q197 : x7_1 < (y191.length : Int) := od_
         obtain ⟨ad197, e197, hx197_0⟩ := Kd.at_int (Kd.R_reads' HO_4.out).2.2 x7_1 p197 q197
         obtain rfl : ad194 = ad197 := (by injection e197)
         replace p197 := eq_true p197
         replace q197 := eq_true q197
         try go_wp2
         replace HO_4 := Aside0.mk (Kd.R_drew HO_4.out)
         replace BK189 := Aside0.mk (blk_drew BK189.out)
         replace BK190 := Aside0.mk (blk_drew BK190.out)
         replace HB := Aside0.mk (below_drew1 HB.out)
         have p198 : 0 ≤ (x7_1 : Int) := od_
         have q198 : x7_1 < (y191.length : Int) := od_
         obtain ⟨ad198, e198, hx198_0⟩ := Kd.at_int (Kd.R_reads' HO_4.out).2.2 x7_1 p198 q198
         obtain rfl : ad194 = ad198 := (by injection e198)
         replace p198 := eq_true p198
         replace q198 := eq_true q198
         have p199 : 0 ≤ (x7_1 : Int) := od_
         have q199 : x7_1 < (y191.length : Int) := od_
         obtain ⟨ad199, e199, hx199_0⟩ := Kd.at_int (Kd.R_reads' HO_4.out).2.2 x7_1 p199 q199
         obtain rfl : ad194 = ad199 := (by injection e199)
         replace p199 := eq_true p199
         replace q199 := eq_true q199
         have p200 : 0 ≤ (x7_1 : Int) := od_
         have q200 : x7_1 < (y191.length : Int) := od_
         obtain ⟨ad200, e200, hx200_0⟩ := Kd.at_int (Kd.R_reads' HO_4.out).2.2 x7_1 p200 q200
         obtain rfl : ad194 = ad200 := (by injection e200)
         replace p200 := eq_true p200
         replace q200 := eq_true q200
         refine start_ (n := 16) (S := fun w' => w'.cell? (ad194.add (x7_1).toNat) = some (.int .i64 (rd y191 x7_1)) ∧ w'.cell? (ad194.add (x7_1).toNat) = some (.int .i64 (rd y191 x7_1)) ∧ w'.cell? (ad194.add (x7_1).toNat) = some (.int .i64 (rd y191 x7_1))) (ds := []) (bv_ 16 0) (by kernel_rfl) rfl rfl ⟨hx198_0, hx199_0, hx200_0⟩ (fun hHeld => ?_); refine with_tabW spec_l04Reduce.tab8 spec_l04Reduce.bits8 (fun HT_ HW_ => ?_)
         generalize w21.drew = w22 at HO_4 BK189 BK190 HB hx198_0 hx199_0 hx200_0 hHeld ⊢
         refine pu_ HT_ 0 (some 48) (bv_ 16 1) ?_
         refine pu_ HT_ 1 (some 49) (bv_ 16 3) ?_
         refine pu_ HT_ 2 (some 50) (bv_ 16 7) ?_
         refine pu_ HT_ 4 (some 52) (bv_ 16 23) ?_
         refine pu_ HT_ 5 (some 53) (bv_ 16 55) ?_
         refine pu_ HT_ 6 (some 54) (bv_ 16 119) ?_
         refine pu_ HT_ 8 (some 56) (bv_ 16 375) ?_
         refine pu_ HT_ 9 (some 57) (bv_ 16 887) ?_
         refine pu_ HT_ 10 (some 58) (bv_ 16 1911) ?_
         refine ta_ HT_ HW_ 3 (some 51) (bv_ 16 1919) hHeld ?_ (hy := by rintro w' ⟨s0, s1, s2⟩; go_simp; with_reducible rfl)
         refine ta_ HT_ HW_ 7 (some 55) (bv_ 16 2047) hHeld ?_ (hy := by rintro w' ⟨s0, s1, s2⟩; go_simp; with_reducible rfl)
         refine ta_ HT_ HW_ 11 (some 59) (bv_ 16 4095) hHeld ?_ (hy := by rintro w' ⟨s0, s1, s2⟩; go_simp; with_reducible rfl)
         refine pu_ HT_ 12 (some 60) (bv_ 16 8191) ?_
         refine pu_ HT_ 13 (some 61) (bv_ 16 16383) ?_
         refine pu_ HT_ 14 (some 62) (bv_ 16 32767) ?_
         refine pu_ HT_ 15 (some 6) (bv_ 16 65535) ?_
         refine done_ (done_of HT_.out (by kernel_rfl)) ?_
         try go_wp2
         go_roundg k1
         case measure => have := HK1.out; omega
         case rel => exact ⟨(t196), (wrap64 (Int.tdiv (rd y191 x7_1) (ji11))), (wrap64 (x7_1 + 1)), en_, (by first | rfl | (simp; done) | (simp only [← hji11] <;> (first | rfl | simp)) | (simp [*]; done)), en_, H', ⟨by have := HK1.out; omega⟩, ⟨by (with_reducible repeat (first | apply Kd.R_alloc | apply Kd.R_drewN | apply Kd.R_drew)); exact HO_4.out⟩, bl_ BK189, bl_ BK190, bw_ HB⟩
      ·rw [if_neg c13] at H
       have c13b0 : (x6_1 == 0) = false := beq_eq_false_iff_ne.mpr c13
       have c13b1 : (x6_1 != 0) = true := bne_iff_ne.mpr c13
       have H' := Aside0.mk H
       clear H
       try go_wp2
       replace HO_4 := Aside0.mk (Kd.R_drew HO_4.out)
       replace BK189 := Aside0.mk (blk_drew BK189.out)
       replace BK190 := Aside0.mk (blk_drew BK190.out)
       replace HB := Aside0.mk (below_drew1 HB.out)
       obtain ⟨Ao24, co24, eo24⟩ := Kd.R_slice HO_4.out
       (first | subst eo24 | (injection eo24 with f1_ f2_ f3_; have f4_ := f1_.symm; have f5_ := f3_.symm; clear f1_ f2_ f3_; subst f4_; subst f5_))
       have p194 : 0 ≤ (x7_1 : Int) := od_
       have q194 : x7_1 < (y191.length : Int) := od_
       obtain ⟨ad194, e194, hx194_0⟩ := Kd.at_int (Kd.R_reads' HO_4.out).2.2 x7_1 p194 q194
       cases e194
       replace p194 := eq_true p194
       replace q194 := eq_true q194
       have p195 : 0 ≤ (x7_1 : Int) := od_
       have q195 : x7_1 < (y191.length : Int) := od_
       obtain ⟨ad195, e195, hx195_0⟩ := Kd.at_int (Kd.R_reads' HO_4.out).2.2 x7_1 p195 q195
       obtain rfl : ad194 = ad195 := (by injection e195)
       replace p195 := eq_true p195
       replace q195 := eq_true q195
       refine start_ (n := 13) (S := fun w' => w'.cell? (ad194.add (x7_1).toNat) = some (.int .i64 (rd y191 x7_1)) ∧ w'.cell? (ad194.add (x7_1).toNat) = some (.int .i64 (rd y191 x7_1))) (ds := []) (bv_ 13 0) (by kernel_rfl) rfl rfl ⟨hx194_0, hx195_0⟩ (fun hHeld => ?_); refine with_tabW spec_l04Reduce.tab6 spec_l04Reduce.bits6 (fun HT_ HW_ => ?_)
       generalize wr.drew = w23 at HO_4 BK189 BK190 HB hx194_0 hx195_0 hHeld ⊢
       refine pu_ HT_ 0 (some 27) (bv_ 13 1) ?_
       refine pu_ HT_ 1 (some 28) (bv_ 13 3) ?_
       refine pu_ HT_ 2 (some 29) (bv_ 13 7) ?_
       refine pu_ HT_ 3 (some 30) (bv_ 13 15) ?_
       refine pu_ HT_ 5 (some 32) (bv_ 13 47) ?_
       refine pu_ HT_ 6 (some 33) (bv_ 13 111) ?_
       refine pu_ HT_ 7 (some 34) (bv_ 13 239) ?_
       refine ta_ HT_ HW_ 4 (some 31) (bv_ 13 255) hHeld ?_ (hy := by rintro w' ⟨s0, s1⟩; go_simp; with_reducible rfl)
       refine ta_ HT_ HW_ 8 (some 35) (bv_ 13 511) hHeld ?_ (hy := by rintro w' ⟨s0, s1⟩; go_simp; with_reducible rfl)
       refine pu_ HT_ 9 (some 36) (bv_ 13 1023) ?_
       refine pu_ HT_ 10 (some 37) (bv_ 13 2047) ?_
       refine on_ HT_ 11 (some 38) (bv_ 13 4095) (fun K hK => ?_)
       refine gs_ Try.func148 #[.int .i64 x5_1, .int .i64 ji11] ?_ (hargs := by (try simp only [List.map_toArray, List.map_cons, List.map_nil]); first | done | (simp only [hji11]; rfl) | rfl | (simp only [List.length_drop, List.length_take]; rfl))
       with_reducible refine (spec_l01Gcd.calls k1 x5_1 ji11 t196 _ A12.out).mono ?_
       rintro e w25 ⟨rfl, hb⟩
       have HS0_ := (hb.cell (World.block_lt_of_cell? _ _ (hHeld.1))).trans (hHeld.1)
       have HS1_ := (hb.cell (World.block_lt_of_cell? _ _ (hHeld.2))).trans (hHeld.2)
       refine ⟨_, rfl, ?_⟩
       replace HO_4 := Aside0.mk (Kd.R_below (ra_ HO_4.out) hb)
       replace BK189 := bb_ BK189 hb
       replace BK190 := bb_ BK190 hb
       replace HB := bt_ HB hb
       (try clear hb)
       (try clear hb2)
       (try clear hk)
       (try clear hi)
       refine hK.out _ _ ⟨HS0_, HS1_⟩ (fun hHeld => ?_)
       clear hK K
       refine nm_ (some 38) ?_
       refine pu_ HT_ 12 (some 5) (bv_ 13 8191) ?_
       refine done_ (done_of HT_.out (by kernel_rfl)) ?_
       try go_wp2
       go_roundg k1
       case measure => have := HK1.out; omega
       case rel => exact ⟨(t196), (x6_1), (wrap64 (x7_1 + 1)), en_, en_, en_, H', ⟨by have := HK1.out; omega⟩, ⟨by (with_reducible repeat (first | apply Kd.R_alloc | apply Kd.R_drewN | apply Kd.R_drew)); exact HO_4.out⟩, bl_ BK189, bl_ BK190, bw_ HB⟩
     ·rw [if_neg c10] at H
      exact absurd H (by simp)
    ·rw [if_neg c9] at H
     exact absurd H (by simp)
   ·rw [if_neg c8] at H
    have c8b0 : decide (x7_1 < 4) = false := decide_eq_false c8
    clear c8
    obtain ⟨ji26, hji26⟩ : ∃ j_ : Int, (mx x5_1 (wrap64 (-x5_1))) = j_ := ⟨_, rfl⟩
    replace H : (spec_l04Reduce.l1 k1 y191 ji26 x6_1 true 0) = some (r1, r2, r3, r4, r5) := by first | (rw [hji26] at H; exact H) | (simp only [hji26] at H ⊢; exact H)
    have hji26_k : (if x5_1 < (IntKind.i64.wrap (-x5_1)) then (IntKind.i64.wrap (-x5_1)) else x5_1) = ji26 := by simp only [i64_w]; exact hji26
    have hji26_ : (if x5_1 < (wrap64 (-x5_1)) then (wrap64 (-x5_1)) else x5_1) = ji26 := hji26
    have H' := Aside0.mk H
    clear H
    go_wp2
    go_loopg [8, 9] k1 (fun kq v8 v9 w' => ∃ (x4_2 : List Int) (x8_2 : Bool) (x9_2 : Int), v8 = .bool x8_2 ∧ v9 = .int .i64 x9_2 ∧ Aside0 (spec_l04Reduce.l1 kq x4_2 ji26 x6_1 x8_2 x9_2 = some (r1, r2, r3, r4, r5)) ∧ Aside0 (kq ≤ k1) ∧ Aside0 (Kd.R (Kd.int .i64) 2 w' w.heap.size (fun _ => True) v192 x4_2) ∧ Aside0 (w'.heap[gb189]? = some (.cells #[.int .i64 a0_0, .int .i64 a0_1, .int .i64 a0_2, .int .i64 a0_3] 26 (0, 0))) ∧ Aside0 (w'.heap[gb190]? = some (.cells #[.int .i64 0, .int .i64 0, .int .i64 0, .int .i64 0] 26 (0, 0))) ∧ Aside0 (Below w.heap.size w w'))
    case atStart => exact ⟨(y191), (true), (0), en_, en_, H', ⟨Nat.le_refl _⟩, ⟨by (with_reducible repeat (first | apply Kd.R_alloc | apply Kd.R_drewN | apply Kd.R_drew)); exact HO_4.out⟩, bl_ BK189, bl_ BK190, bw_ HB⟩
    case round =>
     clear H'
     try clear c1
     try clear p1
     try clear q1
     try clear hx1
     try clear p2
     try clear q2
     try clear hx2
     try clear p6
     try clear c8
     try clear c8b0
     try clear c9
     try clear c10
     try clear c13
     try clear c13b0
     try clear c13b1
     try clear c14
     try clear c14b0
     try clear c14b1
     try clear c18
     try clear c18b0
     try clear c18b1
     try clear p19
     try clear q19
     try clear hx19
     try clear p20
     try clear q20
     try clear hx20
     try clear hx194_0
     try clear hx195_0
     try clear hx197_0
     try clear hx198_0
     try clear hx199_0
     try clear hx200_0
     try clear p194
     try clear p195
     try clear p197
     try clear p198
     try clear p199
     try clear p200
     try clear q194
     try clear q195
     try clear q197
     try clear q198
     try clear q199
     try clear q200
     obtain ⟨x4_2, x8_2, x9_2, rfl, rfl, HA, HK2, HO_4, BK189, BK190, HB⟩ := hrel
     cases gk with
     | zero => exact absurd HA.out (by simp [spec_l04Reduce.l1])
     | succ k2 =>
      have H := HA.out
      clear HA
      simp only [spec_l04Reduce.l1] at H
      by_cases c27 : x9_2 < 4
      ·rw [if_pos c27] at H
       have c27b0 : decide (x9_2 < 4) = true := decide_eq_true c27
       clear c27
       by_cases c28 : 0 ≤ x9_2
       ·rw [if_pos c28] at H
        have c28b0 : decide (0 ≤ x9_2) = true := decide_eq_true c28
        clear c28
        by_cases c29 : x9_2 < (x4_2.length : Int)
        ·rw [if_pos c29] at H
         have c29b0 : decide (x9_2 < (x4_2.length : Int)) = true := decide_eq_true c29
         clear c29
         by_cases c30 : ji26 = 0
         ·rw [if_pos c30] at H
          exact absurd H (by simp)
         ·rw [if_neg c30] at H
          have c30b0 : (ji26 == 0) = false := beq_eq_false_iff_ne.mpr c30
          have c30b1 : (ji26 != 0) = true := bne_iff_ne.mpr c30
          obtain ⟨y202, hy202⟩ : ∃ y_ : List Int, y_ = (x4_2.set (x9_2 : Int).toNat (wrap64 ((wrap64 (Int.tdiv (rd x4_2 x9_2) ji26)) * x6_1))) := ⟨_, rfl⟩
          replace H : (if x8_2 = true then ((spec_l01In.f (rd y202 x9_2) (-1000) 1000).bind fun t204 => (spec_l04Reduce.l1 k2 y202 ji26 x6_1 t204 (wrap64 (x9_2 + 1)))) else (spec_l04Reduce.l1 k2 y202 ji26 x6_1 false (wrap64 (x9_2 + 1)))) = some (r1, r2, r3, r4, r5) := by first | (rw [hy202]; with_reducible exact H) | (have H2_ := (Option.bind_some _ _).symm.trans H; rw [hy202]; with_reducible exact H2_) | (have H2_ := (Option.bind_some _ _).symm.trans H; with_reducible exact H2_) | with_reducible exact H | (rw [hy202]; exact H) | exact H
          have Ny202 := Aside0.mk hy202
          clear hy202
          by_cases c32 : x8_2 = true
          ·subst c32
           have H1 : ((spec_l01In.f (rd y202 x9_2) (-1000) 1000).bind fun t204 => (spec_l04Reduce.l1 k2 y202 ji26 x6_1 t204 (wrap64 (x9_2 + 1)))) = some (r1, r2, r3, r4, r5) := by rw [if_pos rfl] at H; exact H
           clear H
           have H := H1
           clear H1
           replace H := ob_ H
           obtain ⟨t204, A330, H⟩ := H
           have A33 := Aside0.mk A330
           clear A330
           have H' := Aside0.mk H
           clear H
           obtain ⟨Ao34, co34, eo34⟩ := Kd.R_slice HO_4.out
           subst eo34
           have p201 : 0 ≤ (x9_2 : Int) := od_
           have q201 : x9_2 < (x4_2.length : Int) := od_
           obtain ⟨ad201, e201, hx201_0⟩ := Kd.at_int (Kd.R_reads' HO_4.out).2.2 x9_2 p201 q201
           cases e201
           replace p201 := eq_true p201
           replace q201 := eq_true q201
           have p31 : 0 ≤ (x9_2 : Int) := od_
           have q31 : (x9_2 : Int) < ((x4_2.length : Int) : Int) := od_
           obtain ⟨go31, co31, eo31, gb31, gl31, cl31, HG31⟩ := Kd.R_form HO_4.out (by omega)
           (first | cases eo31 | (injection eo31 with ea_ en_ ec_; (first | subst ea_ | (injection ea_ with ea_; subst ea_)); subst ec_; clear en_))
           have GB31 := Aside0.mk gb31
           have GG31 := Aside0.mk HG31
           clear gb31 gl31 HG31
           (first | simp only [add_plain] at hx201_0 | skip)
           obtain ⟨hx31_0, hf31_0⟩ := Kd.R_celln 0 HO_4.out (x9_2 : Int) p31 q31
           replace p31 := eq_true p31
           replace q31 := eq_true q31
           have HP35 := Kd.R_putg HO_4.out (x9_2 : Int) (wrap64 ((wrap64 (Int.tdiv (rd x4_2 x9_2) ji26)) * x6_1))
           go_wp2_with (first | ((with_reducible refine gate_store (t := 2) (p := 81) rfl ?_); refine store_event (t := 2) (p := 81) (v := ?vo_w36) (w1 := (wr.setCell ⟨go31, (x9_2 : Int).toNat, none⟩ (.int .i64 (wrap64 ((wrap64 (Int.tdiv (rd x4_2 x9_2) ji26)) * x6_1))))) ?hg ?ho ?hn ?hr ?_; (case ho => rfl); (case hg => rfl); (case hn => rfl); (case hr => first | (go_simp; done) | (go_simp; rfl)); intro w36 hw; have hg : wr.grownBy w36 (some go31) := (by rw [hw]; exact HP35.2); have hp_ : Kd.R (Kd.int .i64) 2 w36 w.heap.size (fun _ => True) (.slice (some ⟨go31, 0, none⟩) x4_2.length co34) y202 := (by rw [hw, Ny202.out]; exact HP35.1); clear HP35; replace BK189 := Aside0.mk (blk_grown (g := gb189) (o := .cells #[.int .i64 a0_0, .int .i64 a0_1, .int .i64 a0_2, .int .i64 a0_3] 26 (0, 0)) (bl_ BK189).out hg (Kd.R_ne HO_4.out BK189.out (by decide))); replace BK190 := Aside0.mk (blk_grown (g := gb190) (o := .cells #[.int .i64 0, .int .i64 0, .int .i64 0, .int .i64 0] 26 (0, 0)) (bl_ BK190).out hg (Kd.R_ne HO_4.out BK190.out (by decide))); replace HO_4 := Aside0.mk (hp_); replace HB := Aside0.mk ((by rw [hw]; exact below_set (HB.out) GB31.out : Below w.heap.size w w36)); clear hg hw hp_; have p203 : 0 ≤ (x9_2 : Int) := od_; have q203 : x9_2 < (y202.length : Int) := (by have h_ : (x9_2 : Int) < ((x4_2.length : Int) : Int) := od_; first | (have e_ := (Kd.R_reads' HO_4.out).1; omega) | simpa only [Ny202.out, List.length_set] using h_); have ql203 : ((x9_2 : Int) < ((x4_2.length : Int) : Int)) = True := eq_true od_; obtain ⟨ad203, e203, hx203_0⟩ := Kd.at_int (Kd.R_reads' HO_4.out).2.2 x9_2 p203 q203; obtain rfl : (⟨go31, 0, none⟩ : Addr) = ad203 := (by injection e203); (first | simp only [add_plain] at hx203_0 | simp only [add_at] at hx203_0 | simp only [Addr.add, Nat.zero_add] at hx203_0 | skip); replace p203 := eq_true p203; replace q203 := eq_true q203) | (go_at_call 82; (with_reducible refine (spec_l01In.calls (rd y202 x9_2) (-1000) 1000 t204 _ A33.out).mono ?_); rintro e w' ⟨rfl, ⟨nd, rfl⟩⟩))
           go_roundg k2
           case measure => have := HK1.out; have := HK2.out; omega
           case rel => exact ⟨(y202), (t204), (wrap64 (x9_2 + 1)), en_, en_, H', ⟨by have := HK1.out; have := HK2.out; omega⟩, ⟨by (with_reducible repeat (first | apply Kd.R_alloc | apply Kd.R_drewN | apply Kd.R_drew)); exact HO_4.out⟩, bl_ BK189, bl_ BK190, bw_ HB⟩
          ·replace c32 := Bool.eq_false_iff.mpr c32
           subst c32
           have H1 : (spec_l04Reduce.l1 k2 y202 ji26 x6_1 false (wrap64 (x9_2 + 1))) = some (r1, r2, r3, r4, r5) := by rw [if_neg (show ¬ (false = true) by decide)] at H; exact H
           clear H
           have H := H1
           clear H1
           have H' := Aside0.mk H
           clear H
           obtain ⟨Ao37, co37, eo37⟩ := Kd.R_slice HO_4.out
           subst eo37
           have p201 : 0 ≤ (x9_2 : Int) := od_
           have q201 : x9_2 < (x4_2.length : Int) := od_
           obtain ⟨ad201, e201, hx201_0⟩ := Kd.at_int (Kd.R_reads' HO_4.out).2.2 x9_2 p201 q201
           cases e201
           replace p201 := eq_true p201
           replace q201 := eq_true q201
           have p31 : 0 ≤ (x9_2 : Int) := od_
           have q31 : (x9_2 : Int) < ((x4_2.length : Int) : Int) := od_
           obtain ⟨go31, co31, eo31, gb31, gl31, cl31, HG31⟩ := Kd.R_form HO_4.out (by omega)
           (first | cases eo31 | (injection eo31 with ea_ en_ ec_; (first | subst ea_ | (injection ea_ with ea_; subst ea_)); subst ec_; clear en_))
           have GB31 := Aside0.mk gb31
           have GG31 := Aside0.mk HG31
           clear gb31 gl31 HG31
           (first | simp only [add_plain] at hx201_0 | skip)
           obtain ⟨hx31_0, hf31_0⟩ := Kd.R_celln 0 HO_4.out (x9_2 : Int) p31 q31
           replace p31 := eq_true p31
           replace q31 := eq_true q31
           have HP38 := Kd.R_putg HO_4.out (x9_2 : Int) (wrap64 ((wrap64 (Int.tdiv (rd x4_2 x9_2) ji26)) * x6_1))
           go_wp2_with (first | ((with_reducible refine gate_store (t := 2) (p := 81) rfl ?_); refine store_event (t := 2) (p := 81) (v := ?vo_w39) (w1 := (wr.setCell ⟨go31, (x9_2 : Int).toNat, none⟩ (.int .i64 (wrap64 ((wrap64 (Int.tdiv (rd x4_2 x9_2) ji26)) * x6_1))))) ?hg ?ho ?hn ?hr ?_; (case ho => rfl); (case hg => rfl); (case hn => rfl); (case hr => first | (go_simp; done) | (go_simp; rfl)); intro w39 hw; have hg : wr.grownBy w39 (some go31) := (by rw [hw]; exact HP38.2); have hp_ : Kd.R (Kd.int .i64) 2 w39 w.heap.size (fun _ => True) (.slice (some ⟨go31, 0, none⟩) x4_2.length co37) y202 := (by rw [hw, Ny202.out]; exact HP38.1); clear HP38; replace BK189 := Aside0.mk (blk_grown (g := gb189) (o := .cells #[.int .i64 a0_0, .int .i64 a0_1, .int .i64 a0_2, .int .i64 a0_3] 26 (0, 0)) (bl_ BK189).out hg (Kd.R_ne HO_4.out BK189.out (by decide))); replace BK190 := Aside0.mk (blk_grown (g := gb190) (o := .cells #[.int .i64 0, .int .i64 0, .int .i64 0, .int .i64 0] 26 (0, 0)) (bl_ BK190).out hg (Kd.R_ne HO_4.out BK190.out (by decide))); replace HO_4 := Aside0.mk (hp_); replace HB := Aside0.mk ((by rw [hw]; exact below_set (HB.out) GB31.out : Below w.heap.size w w39)); clear hg hw hp_))
           go_roundg k2
           case measure => have := HK1.out; have := HK2.out; omega
           case rel => exact ⟨(y202), (false), (wrap64 (x9_2 + 1)), en_, en_, H', ⟨by have := HK1.out; have := HK2.out; omega⟩, ⟨by (with_reducible repeat (first | apply Kd.R_alloc | apply Kd.R_drewN | apply Kd.R_drew)); exact HO_4.out⟩, bl_ BK189, bl_ BK190, bw_ HB⟩
        ·rw [if_neg c29] at H
         exact absurd H (by simp)
       ·rw [if_neg c28] at H
        exact absurd H (by simp)
      ·rw [if_neg c27] at H
       have c27b0 : decide (x9_2 < 4) = false := decide_eq_false c27
       clear c27
       by_cases c40 : 0 < (x4_2.length : Int)
       ·rw [if_pos c40] at H
        have c40b0 : decide (0 < (x4_2.length : Int)) = true := decide_eq_true c40
        have c40b1 : decide (0 < x4_2.length) = true := decide_eq_true (by omega)
        clear c40
        by_cases c41 : 1 < (x4_2.length : Int)
        ·rw [if_pos c41] at H
         have c41b0 : decide (1 < (x4_2.length : Int)) = true := decide_eq_true c41
         have c41b1 : decide (1 < x4_2.length) = true := decide_eq_true (by omega)
         clear c41
         by_cases c42 : 2 < (x4_2.length : Int)
         ·rw [if_pos c42] at H
          have c42b0 : decide (2 < (x4_2.length : Int)) = true := decide_eq_true c42
          have c42b1 : decide (2 < x4_2.length) = true := decide_eq_true (by omega)
          clear c42
          by_cases c43 : 3 < (x4_2.length : Int)
          ·rw [if_pos c43] at H
           have c43b0 : decide (3 < (x4_2.length : Int)) = true := decide_eq_true c43
           have c43b1 : decide (3 < x4_2.length) = true := decide_eq_true (by omega)
           clear c43
           simp only [Option.some.injEq, Prod.mk.injEq] at H
           obtain ⟨rfl, rfl, rfl, rfl, rfl⟩ := H
           try go_wp2
           replace HO_4 := Aside0.mk (Kd.R_drew HO_4.out)
           replace BK189 := Aside0.mk (blk_drew BK189.out)
           replace BK190 := Aside0.mk (blk_drew BK190.out)
           replace HB := Aside0.mk (below_drew1 HB.out)
           obtain ⟨Ao45, co45, eo45⟩ := Kd.R_slice HO_4.out
           (first | subst eo45 | (injection eo45 with f1_ f2_ f3_; have f4_ := f1_.symm; have f5_ := f3_.symm; clear f1_ f2_ f3_; subst f4_; subst f5_))
           have p205 : 0 ≤ (0 : Int) := (by omega)
           have q205 : 0 < (x4_2.length : Int) := od_
           obtain ⟨ad205, e205, hx205_0⟩ := Kd.at_int (Kd.R_reads' HO_4.out).2.2 0 p205 q205
           cases e205
           have qi205 : (0 < x4_2.length) = True := eq_true (by omega)
           (try rw [show ((0 : Int)).toNat = 0 from rfl] at hx205_0)
           (try rw [Addr.add_zero'] at hx205_0)
           replace p205 := eq_true p205
           replace q205 := eq_true q205
           have p206 : 0 ≤ (1 : Int) := (by omega)
           have q206 : 1 < (x4_2.length : Int) := od_
           obtain ⟨ad206, e206, hx206_0⟩ := Kd.at_int (Kd.R_reads' HO_4.out).2.2 1 p206 q206
           obtain rfl : ad205 = ad206 := (by injection e206)
           (try simp only [show (1 : Int).toNat = 1 from rfl, Nat.reduceMul, Nat.reduceEqDiff, Go.Addr.add, ↓reduceIte] at hx206_0)
           have qi206 : (1 < x4_2.length) = True := eq_true (by omega)
           (try rw [show ((1 : Int)).toNat = 1 from rfl] at hx206_0)
           replace p206 := eq_true p206
           replace q206 := eq_true q206
           have p207 : 0 ≤ (2 : Int) := (by omega)
           have q207 : 2 < (x4_2.length : Int) := od_
           obtain ⟨ad207, e207, hx207_0⟩ := Kd.at_int (Kd.R_reads' HO_4.out).2.2 2 p207 q207
           obtain rfl : ad205 = ad207 := (by injection e207)
           (try simp only [show (2 : Int).toNat = 2 from rfl, Nat.reduceMul, Nat.reduceEqDiff, Go.Addr.add, ↓reduceIte] at hx207_0)
           have qi207 : (2 < x4_2.length) = True := eq_true (by omega)
           (try rw [show ((2 : Int)).toNat = 2 from rfl] at hx207_0)
           replace p207 := eq_true p207
           replace q207 := eq_true q207
           have p208 : 0 ≤ (3 : Int) := (by omega)
           have q208 : 3 < (x4_2.length : Int) := od_
           obtain ⟨ad208, e208, hx208_0⟩ := Kd.at_int (Kd.R_reads' HO_4.out).2.2 3 p208 q208
           obtain rfl : ad205 = ad208 := (by injection e208)
           (try simp only [show (3 : Int).toNat = 3 from rfl, Nat.reduceMul, Nat.reduceEqDiff, Go.Addr.add, ↓reduceIte] at hx208_0)
           have qi208 : (3 < x4_2.length) = True := eq_true (by omega)
           (try rw [show ((3 : Int)).toNat = 3 from rfl] at hx208_0)
           replace p208 := eq_true p208
           replace q208 := eq_true q208
           refine start_ (n := 18) (S := fun w' => w'.cell? ad205 = some (.int .i64 (rd x4_2 0)) ∧ w'.cell? ⟨ad205.block, ad205.off + 1, none⟩ = some (.int .i64 (rd x4_2 1)) ∧ w'.cell? ⟨ad205.block, ad205.off + 2, none⟩ = some (.int .i64 (rd x4_2 2)) ∧ w'.cell? ⟨ad205.block, ad205.off + 3, none⟩ = some (.int .i64 (rd x4_2 3))) (ds := []) (bv_ 18 0) (by kernel_rfl) rfl rfl ⟨hx205_0, hx206_0, hx207_0, hx208_0⟩ (fun hHeld => ?_); refine with_tabW spec_l04Reduce.tab16 spec_l04Reduce.bits16 (fun HT_ HW_ => ?_)
           generalize wr.drew = w44 at HO_4 BK189 BK190 HB hx205_0 hx206_0 hx207_0 hx208_0 hHeld ⊢
           refine pu_ HT_ 0 (some 90) (bv_ 18 1) ?_
           refine pu_ HT_ 1 (some 91) (bv_ 18 3) ?_
           refine pu_ HT_ 3 (some 93) (bv_ 18 11) ?_
           refine pu_ HT_ 4 (some 94) (bv_ 18 27) ?_
           refine pu_ HT_ 7 (some 97) (bv_ 18 155) ?_
           refine pu_ HT_ 8 (some 98) (bv_ 18 411) ?_
           refine pu_ HT_ 10 (some 100) (bv_ 18 1435) ?_
           refine pu_ HT_ 11 (some 101) (bv_ 18 3483) ?_
           refine pu_ HT_ 15 (some 105) (bv_ 18 36251) ?_
           refine ta_ HT_ HW_ 2 (some 92) (bv_ 18 36255) hHeld ?_ (hy := by rintro w' ⟨s0, s1, s2, s3⟩; go_simp; with_reducible rfl)
           refine ta_ HT_ HW_ 5 (some 95) (bv_ 18 36287) hHeld ?_ (hy := by rintro w' ⟨s0, s1, s2, s3⟩; go_simp; with_reducible rfl)
           refine pu_ HT_ 6 (some 96) (bv_ 18 36351) ?_
           refine ta_ HT_ HW_ 9 (some 99) (bv_ 18 36863) hHeld ?_ (hy := by rintro w' ⟨s0, s1, s2, s3⟩; go_simp; with_reducible rfl)
           refine ta_ HT_ HW_ 12 (some 102) (bv_ 18 40959) hHeld ?_ (hy := by rintro w' ⟨s0, s1, s2, s3⟩; go_simp; with_reducible rfl)
           refine pu_ HT_ 13 (some 103) (bv_ 18 49151) ?_
           refine pu_ HT_ 14 (some 104) (bv_ 18 65535) ?_
           refine on_ HT_ 16 none (bv_ 18 131071) (fun K hK => ?_)
           have hs46 : w44.cell? ⟨gb190, 0, none⟩ = some (.int .i64 0) := (blk_cell BK190.out 0).trans rfl
           have hfs46 := blk_frozen BK190.out 0
           have hns46_0 := NB189_190.out
           have hms46_0 := NB190_189.out
           have hs47 : w44.cell? ⟨gb190, 1, none⟩ = some (.int .i64 0) := (blk_cell BK190.out 1).trans rfl
           have hfs47 := blk_frozen BK190.out 1
           have hns47_0 := NB189_190.out
           have hms47_0 := NB190_189.out
           have hs48 : w44.cell? ⟨gb190, 2, none⟩ = some (.int .i64 0) := (blk_cell BK190.out 2).trans rfl
           have hfs48 := blk_frozen BK190.out 2
           have hns48_0 := NB189_190.out
           have hms48_0 := NB190_189.out
           have hs49 : w44.cell? ⟨gb190, 3, none⟩ = some (.int .i64 0) := (blk_cell BK190.out 3).trans rfl
           have hfs49 := blk_frozen BK190.out 3
           have hns49_0 := NB189_190.out
           have hms49_0 := NB190_189.out
           refine skip_ (w1 := ?_) (by rfl) rfl ?_ ?_
           rotate_left
           ·go_simp
            rfl
           refine hK.out _ _ ⟨((cell_far (p := ⟨gb190, _, none⟩) (by first | exact Kd.own_blk (Kd.R_ne HO_4.out BK190.out (by decide)) | (rw [add_block]; exact Kd.own_blk (Kd.R_ne HO_4.out BK190.out (by decide))) | (show (Addr.add _ _).block ≠ _; rw [add_block]; exact Kd.own_blk (Kd.R_ne HO_4.out BK190.out (by decide))) | (dsimp only; exact Kd.own_blk (Kd.R_ne HO_4.out BK190.out (by decide)))) _).trans (((cell_far (p := ⟨gb190, _, none⟩) (by first | exact Kd.own_blk (Kd.R_ne HO_4.out BK190.out (by decide)) | (rw [add_block]; exact Kd.own_blk (Kd.R_ne HO_4.out BK190.out (by decide))) | (show (Addr.add _ _).block ≠ _; rw [add_block]; exact Kd.own_blk (Kd.R_ne HO_4.out BK190.out (by decide))) | (dsimp only; exact Kd.own_blk (Kd.R_ne HO_4.out BK190.out (by decide)))) _).trans (((cell_far (p := ⟨gb190, _, none⟩) (by first | exact Kd.own_blk (Kd.R_ne HO_4.out BK190.out (by decide)) | (rw [add_block]; exact Kd.own_blk (Kd.R_ne HO_4.out BK190.out (by decide))) | (show (Addr.add _ _).block ≠ _; rw [add_block]; exact Kd.own_blk (Kd.R_ne HO_4.out BK190.out (by decide))) | (dsimp only; exact Kd.own_blk (Kd.R_ne HO_4.out BK190.out (by decide)))) _).trans (((cell_far (p := ⟨gb190, _, none⟩) (by first | exact Kd.own_blk (Kd.R_ne HO_4.out BK190.out (by decide)) | (rw [add_block]; exact Kd.own_blk (Kd.R_ne HO_4.out BK190.out (by decide))) | (show (Addr.add _ _).block ≠ _; rw [add_block]; exact Kd.own_blk (Kd.R_ne HO_4.out BK190.out (by decide))) | (dsimp only; exact Kd.own_blk (Kd.R_ne HO_4.out BK190.out (by decide)))) _).trans (hHeld.1)))))))), ((cell_far (p := ⟨gb190, _, none⟩) (by first | exact Kd.own_blk (Kd.R_ne HO_4.out BK190.out (by decide)) | (rw [add_block]; exact Kd.own_blk (Kd.R_ne HO_4.out BK190.out (by decide))) | (show (Addr.add _ _).block ≠ _; rw [add_block]; exact Kd.own_blk (Kd.R_ne HO_4.out BK190.out (by decide))) | (dsimp only; exact Kd.own_blk (Kd.R_ne HO_4.out BK190.out (by decide)))) _).trans (((cell_far (p := ⟨gb190, _, none⟩) (by first | exact Kd.own_blk (Kd.R_ne HO_4.out BK190.out (by decide)) | (rw [add_block]; exact Kd.own_blk (Kd.R_ne HO_4.out BK190.out (by decide))) | (show (Addr.add _ _).block ≠ _; rw [add_block]; exact Kd.own_blk (Kd.R_ne HO_4.out BK190.out (by decide))) | (dsimp only; exact Kd.own_blk (Kd.R_ne HO_4.out BK190.out (by decide)))) _).trans (((cell_far (p := ⟨gb190, _, none⟩) (by first | exact Kd.own_blk (Kd.R_ne HO_4.out BK190.out (by decide)) | (rw [add_block]; exact Kd.own_blk (Kd.R_ne HO_4.out BK190.out (by decide))) | (show (Addr.add _ _).block ≠ _; rw [add_block]; exact Kd.own_blk (Kd.R_ne HO_4.out BK190.out (by decide))) | (dsimp only; exact Kd.own_blk (Kd.R_ne HO_4.out BK190.out (by decide)))) _).trans (((cell_far (p := ⟨gb190, _, none⟩) (by first | exact Kd.own_blk (Kd.R_ne HO_4.out BK190.out (by decide)) | (rw [add_block]; exact Kd.own_blk (Kd.R_ne HO_4.out BK190.out (by decide))) | (show (Addr.add _ _).block ≠ _; rw [add_block]; exact Kd.own_blk (Kd.R_ne HO_4.out BK190.out (by decide))) | (dsimp only; exact Kd.own_blk (Kd.R_ne HO_4.out BK190.out (by decide)))) _).trans (hHeld.2.1)))))))), ((cell_far (p := ⟨gb190, _, none⟩) (by first | exact Kd.own_blk (Kd.R_ne HO_4.out BK190.out (by decide)) | (rw [add_block]; exact Kd.own_blk (Kd.R_ne HO_4.out BK190.out (by decide))) | (show (Addr.add _ _).block ≠ _; rw [add_block]; exact Kd.own_blk (Kd.R_ne HO_4.out BK190.out (by decide))) | (dsimp only; exact Kd.own_blk (Kd.R_ne HO_4.out BK190.out (by decide)))) _).trans (((cell_far (p := ⟨gb190, _, none⟩) (by first | exact Kd.own_blk (Kd.R_ne HO_4.out BK190.out (by decide)) | (rw [add_block]; exact Kd.own_blk (Kd.R_ne HO_4.out BK190.out (by decide))) | (show (Addr.add _ _).block ≠ _; rw [add_block]; exact Kd.own_blk (Kd.R_ne HO_4.out BK190.out (by decide))) | (dsimp only; exact Kd.own_blk (Kd.R_ne HO_4.out BK190.out (by decide)))) _).trans (((cell_far (p := ⟨gb190, _, none⟩) (by first | exact Kd.own_blk (Kd.R_ne HO_4.out BK190.out (by decide)) | (rw [add_block]; exact Kd.own_blk (Kd.R_ne HO_4.out BK190.out (by decide))) | (show (Addr.add _ _).block ≠ _; rw [add_block]; exact Kd.own_blk (Kd.R_ne HO_4.out BK190.out (by decide))) | (dsimp only; exact Kd.own_blk (Kd.R_ne HO_4.out BK190.out (by decide)))) _).trans (((cell_far (p := ⟨gb190, _, none⟩) (by first | exact Kd.own_blk (Kd.R_ne HO_4.out BK190.out (by decide)) | (rw [add_block]; exact Kd.own_blk (Kd.R_ne HO_4.out BK190.out (by decide))) | (show (Addr.add _ _).block ≠ _; rw [add_block]; exact Kd.own_blk (Kd.R_ne HO_4.out BK190.out (by decide))) | (dsimp only; exact Kd.own_blk (Kd.R_ne HO_4.out BK190.out (by decide)))) _).trans (hHeld.2.2.1)))))))), ((cell_far (p := ⟨gb190, _, none⟩) (by first | exact Kd.own_blk (Kd.R_ne HO_4.out BK190.out (by decide)) | (rw [add_block]; exact Kd.own_blk (Kd.R_ne HO_4.out BK190.out (by decide))) | (show (Addr.add _ _).block ≠ _; rw [add_block]; exact Kd.own_blk (Kd.R_ne HO_4.out BK190.out (by decide))) | (dsimp only; exact Kd.own_blk (Kd.R_ne HO_4.out BK190.out (by decide)))) _).trans (((cell_far (p := ⟨gb190, _, none⟩) (by first | exact Kd.own_blk (Kd.R_ne HO_4.out BK190.out (by decide)) | (rw [add_block]; exact Kd.own_blk (Kd.R_ne HO_4.out BK190.out (by decide))) | (show (Addr.add _ _).block ≠ _; rw [add_block]; exact Kd.own_blk (Kd.R_ne HO_4.out BK190.out (by decide))) | (dsimp only; exact Kd.own_blk (Kd.R_ne HO_4.out BK190.out (by decide)))) _).trans (((cell_far (p := ⟨gb190, _, none⟩) (by first | exact Kd.own_blk (Kd.R_ne HO_4.out BK190.out (by decide)) | (rw [add_block]; exact Kd.own_blk (Kd.R_ne HO_4.out BK190.out (by decide))) | (show (Addr.add _ _).block ≠ _; rw [add_block]; exact Kd.own_blk (Kd.R_ne HO_4.out BK190.out (by decide))) | (dsimp only; exact Kd.own_blk (Kd.R_ne HO_4.out BK190.out (by decide)))) _).trans (((cell_far (p := ⟨gb190, _, none⟩) (by first | exact Kd.own_blk (Kd.R_ne HO_4.out BK190.out (by decide)) | (rw [add_block]; exact Kd.own_blk (Kd.R_ne HO_4.out BK190.out (by decide))) | (show (Addr.add _ _).block ≠ _; rw [add_block]; exact Kd.own_blk (Kd.R_ne HO_4.out BK190.out (by decide))) | (dsimp only; exact Kd.own_blk (Kd.R_ne HO_4.out BK190.out (by decide)))) _).trans (hHeld.2.2.2))))))))⟩ (fun hHeld => ?_)
           clear hK K
           refine pu_ HT_ 17 (some 3) (bv_ 18 262143) ?_
           refine done_ (done_of HT_.out (by kernel_rfl)) ?_
           try go_wp2
           refine bodyPost_ret (results_ct rfl _ _ gb190 26 #[.int .i64 (rd x4_2 0), .int .i64 (rd x4_2 1), .int .i64 (rd x4_2 2), .int .i64 (rd x4_2 3)] (0, 0) _ rfl (bp_ BK190).out Try.underlying26 rfl (by kernel_rfl)) rfl ?_
           exact ⟨by first | rfl | (simp [errW_none, errW_some] <;> rfl) | (simp only [← hji26]; first | rfl | (simp [errW_none, errW_some] <;> rfl)) | (simp [*, errW_none, errW_some] <;> rfl), (bw_ HB).out⟩
          ·rw [if_neg c43] at H
           exact absurd H (by simp)
         ·rw [if_neg c42] at H
          exact absurd H (by simp)
        ·rw [if_neg c41] at H
         exact absurd H (by simp)
       ·rw [if_neg c40] at H
        exact absurd H (by simp)
end Go.Proofs.Ytbilincmcnnonaa.QS
