import Derived.Test.YtgoeelhiffbjlaaQBx18
namespace Go.Proofs.Ytgoeelhiffbjlaa.QB
open Go.RowKit YtgoeelhiffbjlaaW.PrintWords YtgoeelhiffbjlaaW.PrintLast YtgoeelhiffbjlaaW.PrintMore
attribute [local go_sem] isSome_setCell max2_int min2_int max_two min_two max_three min_three max_four min_four
set_option linter.unusedVariables false
set_option linter.unusedSimpArgs false
mutual
def spec_l04Reduce.l0 : Nat → List Int → Int → Int → Int → Option (Int × Int × Int × Int × Bool)
 | 0, _, _, _, _ => none
 | k + 1, x4, x5, x6, x7 => if x7 < 4 then (if 0 ≤ x7 then (if x7 < (x4.length : Int) then ((spec_l01Gcd.f k x5 (mx (rd x4 x7) (wrap64 (-(rd x4 x7))))).bind fun t209 => (if x6 = 0 then (if (rd x4 x7) = 0 then (spec_l04Reduce.l0 k x4 t209 x6 (wrap64 (x7 + 1))) else (if (mx (rd x4 x7) (wrap64 (-(rd x4 x7)))) = 0 then (none) else (spec_l04Reduce.l0 k x4 t209 (wrap64 (Int.tdiv (rd x4 x7) (mx (rd x4 x7) (wrap64 (-(rd x4 x7)))))) (wrap64 (x7 + 1))))) else (spec_l04Reduce.l0 k x4 t209 x6 (wrap64 (x7 + 1))))) else (none)) else (none)) else (spec_l04Reduce.l1 k x4 (mx x5 (wrap64 (-x5))) x6 true 0)
def spec_l04Reduce.l1 : Nat → List Int → Int → Int → Bool → Int → Option (Int × Int × Int × Int × Bool)
 | 0, _, _, _, _, _ => none
 | k + 1, x4, x5, x6, x8, x9 => if x9 < 4 then (if 0 ≤ x9 then (if x9 < (x4.length : Int) then (if x5 = 0 then (none) else ((some (x4.set (x9 : Int).toNat (wrap64 ((wrap64 (Int.tdiv (rd x4 x9) x5)) * x6)) : List Int)).bind fun y215 => (if x8 = true then ((spec_l01In.f (rd y215 x9) (-1000) 1000).bind fun t217 => (spec_l04Reduce.l1 k y215 x5 x6 t217 (wrap64 (x9 + 1)))) else (spec_l04Reduce.l1 k y215 x5 x6 false (wrap64 (x9 + 1)))))) else (none)) else (none)) else (if 0 < (x4.length : Int) then (if 1 < (x4.length : Int) then (if 2 < (x4.length : Int) then (if 3 < (x4.length : Int) then (some (rd x4 0, rd x4 1, rd x4 2, rd x4 3, x8)) else (none)) else (none)) else (none)) else (none))
end
def spec_l04Reduce.f (k : Nat) (a0_0 a0_1 a0_2 a0_3 : Int) : Option (Int × Int × Int × Int × Bool) := spec_l04Reduce.l0 k (([a0_0, a0_1, a0_2, a0_3] : List Int)) 0 0 0
def spec_l04Reduce.T6 : Bool × List (List Nat × List Nat) := (true, [([], []), ([], []), ([], []), ([1, 2], [1, 2]), ([3], [3]), ([], []), ([], []), ([5, 6], [5, 6]), ([7], [7]), ([8], [8]), ([4, 9], [4, 9]), ([0, 10], [0, 10]), ([11, 11, 0, 1, 2, 3, 4, 5, 6, 7, 8, 9, 10, 11], [0, 11])])
def spec_l04Reduce.B6 : List Nat := [0, 0, 0, 6, 14, 0, 0, 96, 224, 480, 1022, 2047, 4095]
theorem spec_l04Reduce.tab6 : rtab .any (opsOf Try.f106 6) = spec_l04Reduce.T6 := by kernel_rfl
theorem spec_l04Reduce.bits6 : waitsOk spec_l04Reduce.T6.2 spec_l04Reduce.B6 = true := by kernel_rfl
def spec_l04Reduce.T8 : Bool × List (List Nat × List Nat) := (true, [([], []), ([], []), ([0, 1], [0, 1]), ([2], [2]), ([], []), ([], []), ([4, 5], [4, 5]), ([6], [6]), ([], []), ([], []), ([8, 9], [8, 9]), ([10], [10]), ([11], [11]), ([7, 12], [7, 12]), ([3, 13], [3, 13]), ([14, 0, 1, 2, 3, 4, 5, 6, 7, 8, 9, 10, 11, 12, 13, 14], [14])])
def spec_l04Reduce.B8 : List Nat := [0, 0, 3, 7, 0, 0, 48, 112, 0, 0, 768, 1792, 3840, 8176, 16383, 32767]
theorem spec_l04Reduce.tab8 : rtab .any (opsOf Try.f106 8) = spec_l04Reduce.T8 := by kernel_rfl
theorem spec_l04Reduce.bits8 : waitsOk spec_l04Reduce.T8.2 spec_l04Reduce.B8 = true := by kernel_rfl
def spec_l04Reduce.T16 : Bool × List (List Nat × List Nat) := (true, [([], []), ([0], [0]), ([1], [1]), ([], []), ([3], [3]), ([4], [4]), ([2, 5], [2, 5]), ([], []), ([7], [7]), ([8], [8]), ([], []), ([10], [10]), ([11], [11]), ([9, 12], [9, 12]), ([6, 13], [6, 13]), ([], []), ([14, 0, 1, 2, 3, 4, 5, 6, 7, 8, 9, 10, 11, 12, 13, 14], [14]), ([15, 16, 0, 1, 2, 3, 4, 5, 6, 7, 8, 9, 10, 11, 12, 13, 14, 15, 16], [15])])
def spec_l04Reduce.B16 : List Nat := [0, 1, 3, 0, 8, 24, 63, 0, 128, 384, 0, 1024, 3072, 8064, 16383, 0, 32767, 131071]
theorem spec_l04Reduce.tab16 : rtab .any (opsOf Try.f106 16) = spec_l04Reduce.T16 := by kernel_rfl
theorem spec_l04Reduce.bits16 : waitsOk spec_l04Reduce.T16.2 spec_l04Reduce.B16 = true := by kernel_rfl
set_option maxHeartbeats 8000000 in
set_option maxRecDepth 100000 in
theorem spec_l04Reduce.calls (k : Nat) (a0_0 a0_1 a0_2 a0_3 r1 r2 r3 r4 : Int) (r5 : Bool) (w : World) (h : spec_l04Reduce.f k a0_0 a0_1 a0_2 a0_3 = some (r1, r2, r3, r4, r5)) :
  Calls Try.prog 106 #[.agg #[.int .i64 a0_0, .int .i64 a0_1, .int .i64 a0_2, .int .i64 a0_3]] w fun e w' => e = .returned (.tuple #[.agg #[.int .i64 r1, .int .i64 r2, .int .i64 r3, .int .i64 r4], .bool r5]) ∧ Below w.heap.size w w' := by
 have hu46 := Try.underlying46
 have hu44 := Try.underlying44
 have HB := Aside0.mk (Below.refl w.heap.size w)
 unfold spec_l04Reduce.f at h
 have H := h
 clear h
 obtain ⟨y204, hy204⟩ : ∃ y_ : List Int, y_ = (([a0_0, a0_1, a0_2, a0_3] : List Int)) := ⟨_, rfl⟩
 replace H : (spec_l04Reduce.l0 k y204 0 0 0) = some (r1, r2, r3, r4, r5) := by first | (rw [hy204]; with_reducible exact H) | (have H2_ := (Option.bind_some _ _).symm.trans H; rw [hy204]; with_reducible exact H2_) | (have H2_ := (Option.bind_some _ _).symm.trans H; with_reducible exact H2_) | with_reducible exact H | (rw [hy204]; exact H) | exact H
 have Ny204 := Aside0.mk hy204
 clear hy204
 have H' := Aside0.mk H
 clear H
 go_enter Try.func106, Try.ntmps106
 go_wp2_with (first | ((refine gd_ 1 ?_); refine by_ 1 #[.int .i64 a0_0, .int .i64 a0_1, .int .i64 a0_2, .int .i64 a0_3] 46 HB ?_; intro gb202 hg w2 BK202 hb GW202 HB_; replace HB := HB_; clear hb hg) | ((refine gd_ 2 ?_); refine by_ 2 #[.int .i64 0, .int .i64 0, .int .i64 0, .int .i64 0] 46 HB ?_; intro gb203 hg w3 BK203 hb GW203 HB_; have NB202_203 := bm_ BK202 hg; have NB203_202 := bn_ BK202 hg; replace BK202 := bb_ BK202 hb; replace HB := HB_; clear hb hg; have hnb4 := NB202_203.out; have hnc4 := NB203_202.out; obtain ⟨hcz5_0, hcz5_1, hcz5_2, hcz5_3, hfz5_0, hfz5_1, hfz5_2, hfz5_3⟩ := ch4_ BK202) | ((refine gd_ 22 ?_); refine Kd.R_lit (Kd.int .i64) _ 2 ?hg (N := 22) ?hd (xs := ([a0_0, a0_1, a0_2, a0_3] : List Int)) (inner := [.int .i64 a0_0, .int .i64 a0_1, .int .i64 a0_2, .int .i64 a0_3]) (ok := fun _ => True) (okp := fun _ => True) ?hr ?hp (fun _ hk => hk) trivial (Below.refl _ _) (Nat.le_refl _) (by simp) ?_; (case hd => rfl); (case hg => rfl); (case hr => first | (go_simp; done) | (go_simp; rfl)); (case hp => exact (Reps.one (show Kd.M (Kd.int .i64) _ _ _ a0_0 [.int .i64 a0_0] from rfl) (Reps.one (show Kd.M (Kd.int .i64) _ _ _ a0_1 [.int .i64 a0_1] from rfl) (Reps.one (show Kd.M (Kd.int .i64) _ _ _ a0_2 [.int .i64 a0_2] from rfl) (Reps.one (show Kd.M (Kd.int .i64) _ _ _ a0_3 [.int .i64 a0_3] from rfl) (Reps.none _ _)))))); intro v205 w6 ho7 hb hg_ hnew_; clear hg_ hnew_; (first | rw [← Ny204.out] at ho7 | (simp only [Int.reduceToNat] at ho7; rw [← Ny204.out] at ho7)); have HO206 := Aside0.mk (Kd.R_lower ho7 (below_size (bw_ HB).out)); replace BK202 := bb_ BK202 hb; replace BK203 := bb_ BK203 hb; replace HB := bt_ HB hb; clear hb ho7))
 go_loopg [5, 6, 7] k (fun kq v5 v6 v7 w' => ∃ (x5_1 : Int) (x6_1 : Int) (x7_1 : Int), v5 = .int .i64 x5_1 ∧ v6 = .int .i64 x6_1 ∧ v7 = .int .i64 x7_1 ∧ Aside0 (spec_l04Reduce.l0 kq y204 x5_1 x6_1 x7_1 = some (r1, r2, r3, r4, r5)) ∧ Aside0 (kq ≤ k) ∧ Aside0 (Kd.R (Kd.int .i64) 2 w' w.heap.size (fun _ => True) v205 y204) ∧ Aside0 (w'.heap[gb202]? = some (.cells #[.int .i64 a0_0, .int .i64 a0_1, .int .i64 a0_2, .int .i64 a0_3] 46 (0, 0))) ∧ Aside0 (w'.heap[gb203]? = some (.cells #[.int .i64 0, .int .i64 0, .int .i64 0, .int .i64 0] 46 (0, 0))) ∧ Aside0 (Below w.heap.size w w'))
 case atStart => exact ⟨(0), (0), (0), en_, en_, en_, H', ⟨Nat.le_refl _⟩, ⟨by (with_reducible repeat (first | apply Kd.R_alloc | apply Kd.R_drewN | apply Kd.R_drew)); exact HO206.out⟩, bl_ BK202, bl_ BK203, bw_ HB⟩
 clear H'
 try clear hcz5_0 hcz5_1 hcz5_2 hcz5_3
 try clear hfz5_0 hfz5_1 hfz5_2 hfz5_3
 obtain ⟨x5_1, x6_1, x7_1, rfl, rfl, rfl, HA, HK1, HO_4, BK202, BK203, HB⟩ := hrel
 cases gk with
 | zero => exact absurd HA.out (by simp [spec_l04Reduce.l0])
 | succ k1 =>
  have H := HA.out
  clear HA
  simp only [spec_l04Reduce.l0] at H
  replace H := il_ H
  rcases H with ⟨c8b0, H⟩ | ⟨c8b0, H⟩
  ·replace H := imn_ H
   obtain ⟨c9b0, H⟩ := H
   replace H := iln_ H
   obtain ⟨c10b0, H⟩ := H
   obtain ⟨ji11, hji11⟩ : ∃ j_ : Int, (mx (rd y204 x7_1) (wrap64 (-(rd y204 x7_1)))) = j_ := ⟨_, rfl⟩
   replace H : ((spec_l01Gcd.f k1 x5_1 (ji11)).bind fun t209 => (if x6_1 = 0 then (if (rd y204 x7_1) = 0 then (spec_l04Reduce.l0 k1 y204 t209 x6_1 (wrap64 (x7_1 + 1))) else (if (ji11) = 0 then (none) else (spec_l04Reduce.l0 k1 y204 t209 (wrap64 (Int.tdiv (rd y204 x7_1) (ji11))) (wrap64 (x7_1 + 1))))) else (spec_l04Reduce.l0 k1 y204 t209 x6_1 (wrap64 (x7_1 + 1))))) = some (r1, r2, r3, r4, r5) := by first | (rw [hji11] at H; exact H) | (simp only [hji11] at H ⊢; exact H)
   have hji11_k : (if (rd y204 x7_1) < (IntKind.i64.wrap (-(rd y204 x7_1))) then (IntKind.i64.wrap (-(rd y204 x7_1))) else (rd y204 x7_1)) = ji11 := by simp only [i64_w]; exact hji11
   have hji11_ : (if (rd y204 x7_1) < (wrap64 (-(rd y204 x7_1))) then (wrap64 (-(rd y204 x7_1))) else (rd y204 x7_1)) = ji11 := hji11
   replace H := oc_ H
   obtain ⟨t209, A12, H⟩ := H
   replace H := ie_ H
   rcases H with ⟨c13b0, c13b1, H⟩ | ⟨c13, c13b0, c13b1, H⟩
   ·replace H := ie_ H
    rcases H with ⟨c14b0, c14b1, H⟩ | ⟨c14, c14b0, c14b1, H⟩
    ·have H' := Aside0.mk H
     clear H
     try go_wp2
     replace HO_4 := Aside0.mk (Kd.R_drew HO_4.out)
     replace BK202 := bd_ BK202
     replace BK203 := bd_ BK203
     replace HB := be_ HB
     obtain ⟨Ao16, co16, eo16⟩ := Kd.R_slice HO_4.out
     (first | subst eo16 | (injection eo16 with f1_ f2_ f3_; have f4_ := f1_.symm; have f5_ := f3_.symm; clear f1_ f2_ f3_; subst f4_; subst f5_))
     have p207 : 0 ≤ (x7_1 : Int) := od_
     have q207 : x7_1 < (y204.length : Int) := od_
     obtain ⟨ad207, e207, hx207_0⟩ := Kd.at_int (Kd.R_reads' HO_4.out).2.2 x7_1 p207 q207
     cases e207
     replace p207 := eq_true p207
     replace q207 := eq_true q207
     have p208 : 0 ≤ (x7_1 : Int) := od_
     have q208 : x7_1 < (y204.length : Int) := od_
     obtain ⟨ad208, e208, hx208_0⟩ := Kd.at_int (Kd.R_reads' HO_4.out).2.2 x7_1 p208 q208
     obtain rfl : ad207 = ad208 := (by injection e208)
     replace p208 := eq_true p208
     replace q208 := eq_true q208
     refine start_ (n := 13) (S := fun w' => w'.cell? (ad207.add (x7_1).toNat) = some (.int .i64 (rd y204 x7_1)) ∧ w'.cell? (ad207.add (x7_1).toNat) = some (.int .i64 (rd y204 x7_1))) (ds := []) (bv_ 13 0) (by kernel_rfl) rfl rfl ⟨hx207_0, hx208_0⟩ (fun hHeld => ?_); refine with_tabW spec_l04Reduce.tab6 spec_l04Reduce.bits6 (fun HT_ HW_ => ?_)
     generalize wr.drew = w15 at HO_4 BK202 BK203 HB hx207_0 hx208_0 hHeld ⊢
     refine px_ HT_ 0 27 1 ?_
     refine px_ HT_ 1 28 3 ?_
     refine px_ HT_ 2 29 7 ?_
     refine px_ HT_ 3 30 15 ?_
     refine px_ HT_ 5 32 47 ?_
     refine px_ HT_ 6 33 111 ?_
     refine px_ HT_ 7 34 239 ?_
     refine ta_ HT_ HW_ 4 (some 31) (bv_ 13 255) hHeld ?_ (hy := by rintro w' ⟨s0, s1⟩; go_simp; with_reducible rfl)
     refine ta_ HT_ HW_ 8 (some 35) (bv_ 13 511) hHeld ?_ (hy := by rintro w' ⟨s0, s1⟩; go_simp; with_reducible rfl)
     refine px_ HT_ 9 36 1023 ?_
     refine px_ HT_ 10 37 2047 ?_
     refine on_ HT_ 11 (some 38) (bv_ 13 4095) (fun K hK => ?_)
     refine gs_ Try.func167 #[.int .i64 x5_1, .int .i64 ji11] ?_ (hargs := by (try simp only [List.map_toArray, List.map_cons, List.map_nil]); first | done | (simp only [hji11]; rfl) | rfl | (simp only [List.length_drop, List.length_take]; rfl))
     with_reducible refine (spec_l01Gcd.calls k1 x5_1 ji11 t209 _ A12.out).mono ?_
     rintro e w17 ⟨rfl, hb⟩
     have HS0_ := (hb.cell (World.block_lt_of_cell? _ _ (hHeld.1))).trans (hHeld.1)
     have HS1_ := (hb.cell (World.block_lt_of_cell? _ _ (hHeld.2))).trans (hHeld.2)
     refine ⟨_, rfl, ?_⟩
     replace HO_4 := rb_ HO_4 hb
     replace BK202 := bb_ BK202 hb
     replace BK203 := bb_ BK203 hb
     replace HB := bt_ HB hb
     try clear hb
     refine hK.out _ _ ⟨HS0_, HS1_⟩ (fun hHeld => ?_)
     clear hK K
     refine nm_ (some 38) ?_
     refine px_ HT_ 12 5 8191 ?_
     refine done_ (done_of HT_.out (by kernel_rfl)) ?_
     have p210 : 0 ≤ (x7_1 : Int) := od_
     have q210 : x7_1 < (y204.length : Int) := od_
     obtain ⟨ad210, e210, hx210_0⟩ := Kd.at_int (Kd.R_reads' HO_4.out).2.2 x7_1 p210 q210
     obtain rfl : ad207 = ad210 := (by injection e210)
     replace p210 := eq_true p210
     replace q210 := eq_true q210
     try go_wp2
     go_roundg k1
     case measure => have := HK1.out; omega
     case rel => exact ⟨(t209), (x6_1), (wrap64 (x7_1 + 1)), en_, en_, en_, H', ⟨by have := HK1.out; omega⟩, ⟨by (with_reducible repeat (first | apply Kd.R_alloc | apply Kd.R_drewN | apply Kd.R_drew)); exact HO_4.out⟩, bl_ BK202, bl_ BK203, bw_ HB⟩
    replace H := ief_ H
    obtain ⟨c18, c18b0, c18b1, H⟩ := H
    have H' := Aside0.mk H
    clear H
    try go_wp2
    replace HO_4 := Aside0.mk (Kd.R_drew HO_4.out)
    replace BK202 := bd_ BK202
    replace BK203 := bd_ BK203
    replace HB := be_ HB
    obtain ⟨Ao20, co20, eo20⟩ := Kd.R_slice HO_4.out
    (first | subst eo20 | (injection eo20 with f1_ f2_ f3_; have f4_ := f1_.symm; have f5_ := f3_.symm; clear f1_ f2_ f3_; subst f4_; subst f5_))
    have p207 : 0 ≤ (x7_1 : Int) := od_
    have q207 : x7_1 < (y204.length : Int) := od_
    obtain ⟨ad207, e207, hx207_0⟩ := Kd.at_int (Kd.R_reads' HO_4.out).2.2 x7_1 p207 q207
    cases e207
    replace p207 := eq_true p207
    replace q207 := eq_true q207
    have p208 : 0 ≤ (x7_1 : Int) := od_
    have q208 : x7_1 < (y204.length : Int) := od_
    obtain ⟨ad208, e208, hx208_0⟩ := Kd.at_int (Kd.R_reads' HO_4.out).2.2 x7_1 p208 q208
    obtain rfl : ad207 = ad208 := (by injection e208)
    replace p208 := eq_true p208
    replace q208 := eq_true q208
    refine start_ (n := 13) (S := fun w' => w'.cell? (ad207.add (x7_1).toNat) = some (.int .i64 (rd y204 x7_1)) ∧ w'.cell? (ad207.add (x7_1).toNat) = some (.int .i64 (rd y204 x7_1))) (ds := []) (bv_ 13 0) (by kernel_rfl) rfl rfl ⟨hx207_0, hx208_0⟩ (fun hHeld => ?_); refine with_tabW spec_l04Reduce.tab6 spec_l04Reduce.bits6 (fun HT_ HW_ => ?_)
    generalize wr.drew = w19 at HO_4 BK202 BK203 HB hx207_0 hx208_0 hHeld ⊢
    refine px_ HT_ 0 27 1 ?_
    refine px_ HT_ 1 28 3 ?_
    refine px_ HT_ 2 29 7 ?_
    refine px_ HT_ 3 30 15 ?_
    refine px_ HT_ 5 32 47 ?_
    refine px_ HT_ 6 33 111 ?_
    refine px_ HT_ 7 34 239 ?_
    refine ta_ HT_ HW_ 4 (some 31) (bv_ 13 255) hHeld ?_ (hy := by rintro w' ⟨s0, s1⟩; go_simp; with_reducible rfl)
    refine ta_ HT_ HW_ 8 (some 35) (bv_ 13 511) hHeld ?_ (hy := by rintro w' ⟨s0, s1⟩; go_simp; with_reducible rfl)
    refine px_ HT_ 9 36 1023 ?_
    refine px_ HT_ 10 37 2047 ?_
    refine on_ HT_ 11 (some 38) (bv_ 13 4095) (fun K hK => ?_)
    refine gs_ Try.func167 #[.int .i64 x5_1, .int .i64 ji11] ?_ (hargs := by (try simp only [List.map_toArray, List.map_cons, List.map_nil]); first | done | (simp only [hji11]; rfl) | rfl | (simp only [List.length_drop, List.length_take]; rfl))
    with_reducible refine (spec_l01Gcd.calls k1 x5_1 ji11 t209 _ A12.out).mono ?_
    rintro e w21 ⟨rfl, hb⟩
    have HS0_ := (hb.cell (World.block_lt_of_cell? _ _ (hHeld.1))).trans (hHeld.1)
    have HS1_ := (hb.cell (World.block_lt_of_cell? _ _ (hHeld.2))).trans (hHeld.2)
    refine ⟨_, rfl, ?_⟩
    replace HO_4 := rb_ HO_4 hb
    replace BK202 := bb_ BK202 hb
    replace BK203 := bb_ BK203 hb
    replace HB := bt_ HB hb
    try clear hb
    refine hK.out _ _ ⟨HS0_, HS1_⟩ (fun hHeld => ?_)
    clear hK K
    refine nm_ (some 38) ?_
    refine px_ HT_ 12 5 8191 ?_
    refine done_ (done_of HT_.out (by kernel_rfl)) ?_
    have p210 : 0 ≤ (x7_1 : Int) := od_
    have q210 : x7_1 < (y204.length : Int) := od_
    obtain ⟨ad210, e210, hx210_0⟩ := Kd.at_int (Kd.R_reads' HO_4.out).2.2 x7_1 p210 q210
    obtain rfl : ad207 = ad210 := (by injection e210)
    replace p210 := eq_true p210
    replace q210 := eq_true q210
    try go_wp2
    replace HO_4 := Aside0.mk (Kd.R_drew HO_4.out)
    replace BK202 := bd_ BK202
    replace BK203 := bd_ BK203
    replace HB := be_ HB
    have p211 : 0 ≤ (x7_1 : Int) := od_
    have q211 : x7_1 < (y204.length : Int) := od_
    obtain ⟨ad211, e211, hx211_0⟩ := Kd.at_int (Kd.R_reads' HO_4.out).2.2 x7_1 p211 q211
    obtain rfl : ad207 = ad211 := (by injection e211)
    replace p211 := eq_true p211
    replace q211 := eq_true q211
    have p212 : 0 ≤ (x7_1 : Int) := od_
    have q212 : x7_1 < (y204.length : Int) := od_
    obtain ⟨ad212, e212, hx212_0⟩ := Kd.at_int (Kd.R_reads' HO_4.out).2.2 x7_1 p212 q212
    obtain rfl : ad207 = ad212 := (by injection e212)
    replace p212 := eq_true p212
    replace q212 := eq_true q212
    have p213 : 0 ≤ (x7_1 : Int) := od_
    have q213 : x7_1 < (y204.length : Int) := od_
    obtain ⟨ad213, e213, hx213_0⟩ := Kd.at_int (Kd.R_reads' HO_4.out).2.2 x7_1 p213 q213
    obtain rfl : ad207 = ad213 := (by injection e213)
    replace p213 := eq_true p213
    replace q213 := eq_true q213
    refine start_ (n := 16) (S := fun w' => w'.cell? (ad207.add (x7_1).toNat) = some (.int .i64 (rd y204 x7_1)) ∧ w'.cell? (ad207.add (x7_1).toNat) = some (.int .i64 (rd y204 x7_1)) ∧ w'.cell? (ad207.add (x7_1).toNat) = some (.int .i64 (rd y204 x7_1))) (ds := []) (bv_ 16 0) (by kernel_rfl) rfl rfl ⟨hx211_0, hx212_0, hx213_0⟩ (fun hHeld => ?_); refine with_tabW spec_l04Reduce.tab8 spec_l04Reduce.bits8 (fun HT_ HW_ => ?_)
    generalize w21.drew = w22 at HO_4 BK202 BK203 HB hx211_0 hx212_0 hx213_0 hHeld ⊢
    refine px_ HT_ 0 48 1 ?_
    refine px_ HT_ 1 49 3 ?_
    refine px_ HT_ 2 50 7 ?_
    refine px_ HT_ 4 52 23 ?_
    refine px_ HT_ 5 53 55 ?_
    refine px_ HT_ 6 54 119 ?_
    refine px_ HT_ 8 56 375 ?_
    refine px_ HT_ 9 57 887 ?_
    refine px_ HT_ 10 58 1911 ?_
    refine ta_ HT_ HW_ 3 (some 51) (bv_ 16 1919) hHeld ?_ (hy := by rintro w' ⟨s0, s1, s2⟩; go_simp; with_reducible rfl)
    refine ta_ HT_ HW_ 7 (some 55) (bv_ 16 2047) hHeld ?_ (hy := by rintro w' ⟨s0, s1, s2⟩; go_simp; with_reducible rfl)
    refine ta_ HT_ HW_ 11 (some 59) (bv_ 16 4095) hHeld ?_ (hy := by rintro w' ⟨s0, s1, s2⟩; go_simp; with_reducible rfl)
    refine px_ HT_ 12 60 8191 ?_
    refine px_ HT_ 13 61 16383 ?_
    refine px_ HT_ 14 62 32767 ?_
    refine px_ HT_ 15 6 65535 ?_
    refine done_ (done_of HT_.out (by kernel_rfl)) ?_
    try go_wp2
    go_roundg k1
    case measure => have := HK1.out; omega
    case rel => exact ⟨(t209), (wrap64 (Int.tdiv (rd y204 x7_1) (ji11))), (wrap64 (x7_1 + 1)), en_, (by first | rfl | (simp; done) | (simp only [← hji11] <;> (first | rfl | simp)) | (simp [*]; done)), en_, H', ⟨by have := HK1.out; omega⟩, ⟨by (with_reducible repeat (first | apply Kd.R_alloc | apply Kd.R_drewN | apply Kd.R_drew)); exact HO_4.out⟩, bl_ BK202, bl_ BK203, bw_ HB⟩
   have H' := Aside0.mk H
   clear H
   try go_wp2
   replace HO_4 := Aside0.mk (Kd.R_drew HO_4.out)
   replace BK202 := bd_ BK202
   replace BK203 := bd_ BK203
   replace HB := be_ HB
   obtain ⟨Ao24, co24, eo24⟩ := Kd.R_slice HO_4.out
   (first | subst eo24 | (injection eo24 with f1_ f2_ f3_; have f4_ := f1_.symm; have f5_ := f3_.symm; clear f1_ f2_ f3_; subst f4_; subst f5_))
   have p207 : 0 ≤ (x7_1 : Int) := od_
   have q207 : x7_1 < (y204.length : Int) := od_
   obtain ⟨ad207, e207, hx207_0⟩ := Kd.at_int (Kd.R_reads' HO_4.out).2.2 x7_1 p207 q207
   cases e207
   replace p207 := eq_true p207
   replace q207 := eq_true q207
   have p208 : 0 ≤ (x7_1 : Int) := od_
   have q208 : x7_1 < (y204.length : Int) := od_
   obtain ⟨ad208, e208, hx208_0⟩ := Kd.at_int (Kd.R_reads' HO_4.out).2.2 x7_1 p208 q208
   obtain rfl : ad207 = ad208 := (by injection e208)
   replace p208 := eq_true p208
   replace q208 := eq_true q208
   refine start_ (n := 13) (S := fun w' => w'.cell? (ad207.add (x7_1).toNat) = some (.int .i64 (rd y204 x7_1)) ∧ w'.cell? (ad207.add (x7_1).toNat) = some (.int .i64 (rd y204 x7_1))) (ds := []) (bv_ 13 0) (by kernel_rfl) rfl rfl ⟨hx207_0, hx208_0⟩ (fun hHeld => ?_); refine with_tabW spec_l04Reduce.tab6 spec_l04Reduce.bits6 (fun HT_ HW_ => ?_)
   generalize wr.drew = w23 at HO_4 BK202 BK203 HB hx207_0 hx208_0 hHeld ⊢
   refine px_ HT_ 0 27 1 ?_
   refine px_ HT_ 1 28 3 ?_
   refine px_ HT_ 2 29 7 ?_
   refine px_ HT_ 3 30 15 ?_
   refine px_ HT_ 5 32 47 ?_
   refine px_ HT_ 6 33 111 ?_
   refine px_ HT_ 7 34 239 ?_
   refine ta_ HT_ HW_ 4 (some 31) (bv_ 13 255) hHeld ?_ (hy := by rintro w' ⟨s0, s1⟩; go_simp; with_reducible rfl)
   refine ta_ HT_ HW_ 8 (some 35) (bv_ 13 511) hHeld ?_ (hy := by rintro w' ⟨s0, s1⟩; go_simp; with_reducible rfl)
   refine px_ HT_ 9 36 1023 ?_
   refine px_ HT_ 10 37 2047 ?_
   refine on_ HT_ 11 (some 38) (bv_ 13 4095) (fun K hK => ?_)
   refine gs_ Try.func167 #[.int .i64 x5_1, .int .i64 ji11] ?_ (hargs := by (try simp only [List.map_toArray, List.map_cons, List.map_nil]); first | done | (simp only [hji11]; rfl) | rfl | (simp only [List.length_drop, List.length_take]; rfl))
   with_reducible refine (spec_l01Gcd.calls k1 x5_1 ji11 t209 _ A12.out).mono ?_
   rintro e w25 ⟨rfl, hb⟩
   have HS0_ := (hb.cell (World.block_lt_of_cell? _ _ (hHeld.1))).trans (hHeld.1)
   have HS1_ := (hb.cell (World.block_lt_of_cell? _ _ (hHeld.2))).trans (hHeld.2)
   refine ⟨_, rfl, ?_⟩
   replace HO_4 := rb_ HO_4 hb
   replace BK202 := bb_ BK202 hb
   replace BK203 := bb_ BK203 hb
   replace HB := bt_ HB hb
   try clear hb
   refine hK.out _ _ ⟨HS0_, HS1_⟩ (fun hHeld => ?_)
   clear hK K
   refine nm_ (some 38) ?_
   refine px_ HT_ 12 5 8191 ?_
   refine done_ (done_of HT_.out (by kernel_rfl)) ?_
   try go_wp2
   go_roundg k1
   case measure => have := HK1.out; omega
   case rel => exact ⟨(t209), (x6_1), (wrap64 (x7_1 + 1)), en_, en_, en_, H', ⟨by have := HK1.out; omega⟩, ⟨by (with_reducible repeat (first | apply Kd.R_alloc | apply Kd.R_drewN | apply Kd.R_drew)); exact HO_4.out⟩, bl_ BK202, bl_ BK203, bw_ HB⟩
  obtain ⟨ji26, hji26⟩ : ∃ j_ : Int, (mx x5_1 (wrap64 (-x5_1))) = j_ := ⟨_, rfl⟩
  replace H : (spec_l04Reduce.l1 k1 y204 ji26 x6_1 true 0) = some (r1, r2, r3, r4, r5) := by first | (rw [hji26] at H; exact H) | (simp only [hji26] at H ⊢; exact H)
  have hji26_k : (if x5_1 < (IntKind.i64.wrap (-x5_1)) then (IntKind.i64.wrap (-x5_1)) else x5_1) = ji26 := by simp only [i64_w]; exact hji26
  have hji26_ : (if x5_1 < (wrap64 (-x5_1)) then (wrap64 (-x5_1)) else x5_1) = ji26 := hji26
  have H' := Aside0.mk H
  clear H
  go_wp2
  go_loopg [8, 9] k1 (fun kq v8 v9 w' => ∃ (x4_2 : List Int) (x8_2 : Bool) (x9_2 : Int), v8 = .bool x8_2 ∧ v9 = .int .i64 x9_2 ∧ Aside0 (spec_l04Reduce.l1 kq x4_2 ji26 x6_1 x8_2 x9_2 = some (r1, r2, r3, r4, r5)) ∧ Aside0 (kq ≤ k1) ∧ Aside0 (Kd.R (Kd.int .i64) 2 w' w.heap.size (fun _ => True) v205 x4_2) ∧ Aside0 (w'.heap[gb202]? = some (.cells #[.int .i64 a0_0, .int .i64 a0_1, .int .i64 a0_2, .int .i64 a0_3] 46 (0, 0))) ∧ Aside0 (w'.heap[gb203]? = some (.cells #[.int .i64 0, .int .i64 0, .int .i64 0, .int .i64 0] 46 (0, 0))) ∧ Aside0 (Below w.heap.size w w'))
  case atStart => exact ⟨(y204), (true), (0), en_, en_, H', ⟨Nat.le_refl _⟩, ⟨by (with_reducible repeat (first | apply Kd.R_alloc | apply Kd.R_drewN | apply Kd.R_drew)); exact HO_4.out⟩, bl_ BK202, bl_ BK203, bw_ HB⟩
  clear H'
  try clear c8b0
  try clear c13
  try clear c13b0
  try clear c13b1
  try clear c14
  try clear c14b0
  try clear c14b1
  try clear c18
  try clear c18b0
  try clear c18b1
  try clear hx207_0
  try clear hx208_0
  try clear hx210_0
  try clear hx211_0
  try clear hx212_0
  try clear hx213_0
  try clear p207
  try clear p208
  try clear p210
  try clear p211
  try clear p212
  try clear p213
  try clear q207
  try clear q208
  try clear q210
  try clear q211
  try clear q212
  try clear q213
  obtain ⟨x4_2, x8_2, x9_2, rfl, rfl, HA, HK2, HO_4, BK202, BK203, HB⟩ := hrel
  cases gk with
  | zero => exact absurd HA.out (by simp [spec_l04Reduce.l1])
  | succ k2 =>
   have H := HA.out
   clear HA
   simp only [spec_l04Reduce.l1] at H
   replace H := il_ H
   rcases H with ⟨c27b0, H⟩ | ⟨c27b0, H⟩
   ·replace H := imn_ H
    obtain ⟨c28b0, H⟩ := H
    replace H := iln_ H
    obtain ⟨c29b0, H⟩ := H
    replace H := ief_ H
    obtain ⟨c30, c30b0, c30b1, H⟩ := H
    obtain ⟨y215, hy215⟩ : ∃ y_ : List Int, y_ = (x4_2.set (x9_2 : Int).toNat (wrap64 ((wrap64 (Int.tdiv (rd x4_2 x9_2) ji26)) * x6_1))) := ⟨_, rfl⟩
    replace H : (if x8_2 = true then ((spec_l01In.f (rd y215 x9_2) (-1000) 1000).bind fun t217 => (spec_l04Reduce.l1 k2 y215 ji26 x6_1 t217 (wrap64 (x9_2 + 1)))) else (spec_l04Reduce.l1 k2 y215 ji26 x6_1 false (wrap64 (x9_2 + 1)))) = some (r1, r2, r3, r4, r5) := by first | (rw [hy215]; with_reducible exact H) | (have H2_ := (Option.bind_some _ _).symm.trans H; rw [hy215]; with_reducible exact H2_) | (have H2_ := (Option.bind_some _ _).symm.trans H; with_reducible exact H2_) | with_reducible exact H | (rw [hy215]; exact H) | exact H
    have Ny215 := Aside0.mk hy215
    clear hy215
    replace H := ib_ H
    rcases H with ⟨rfl, H⟩ | ⟨rfl, H⟩
    ·replace H := oc_ H
     obtain ⟨t217, A33, H⟩ := H
     have H' := Aside0.mk H
     clear H
     obtain ⟨Ao34, co34, eo34⟩ := Kd.R_slice HO_4.out
     subst eo34
     have p214 : 0 ≤ (x9_2 : Int) := od_
     have q214 : x9_2 < (x4_2.length : Int) := od_
     obtain ⟨ad214, e214, hx214_0⟩ := Kd.at_int (Kd.R_reads' HO_4.out).2.2 x9_2 p214 q214
     cases e214
     replace p214 := eq_true p214
     replace q214 := eq_true q214
     have p31 : 0 ≤ (x9_2 : Int) := od_
     have q31 : (x9_2 : Int) < ((x4_2.length : Int) : Int) := od_
     obtain ⟨go31, co31, eo31, gb31, gl31, cl31, HG31⟩ := Kd.R_form HO_4.out (by omega)
     (first | cases eo31 | (injection eo31 with ea_ en_ ec_; (first | subst ea_ | (injection ea_ with ea_; subst ea_)); subst ec_; clear en_))
     have GB31 := Aside0.mk gb31
     have GG31 := Aside0.mk HG31
     clear gb31 gl31 HG31
     (first | simp only [add_plain] at hx214_0 | skip)
     obtain ⟨hx31_0, hf31_0⟩ := Kd.R_celln 0 HO_4.out (x9_2 : Int) p31 q31
     replace p31 := eq_true p31
     replace q31 := eq_true q31
     have HP35 := Kd.R_putg HO_4.out (x9_2 : Int) (wrap64 ((wrap64 (Int.tdiv (rd x4_2 x9_2) ji26)) * x6_1))
     go_wp2_with (first | ((with_reducible refine gate_store (t := 2) (p := 81) rfl ?_); refine store_event (t := 2) (p := 81) (v := ?vo_w36) (w1 := (wr.setCell ⟨go31, (x9_2 : Int).toNat, none⟩ (.int .i64 (wrap64 ((wrap64 (Int.tdiv (rd x4_2 x9_2) ji26)) * x6_1))))) ?hg ?ho ?hn ?hr ?_; (case ho => rfl); (case hg => rfl); (case hn => rfl); (case hr => first | (go_simp; done) | (go_simp; rfl)); intro w36 hw; have hg : wr.grownBy w36 (some go31) := (by rw [hw]; exact HP35.2); have hp_ : Kd.R (Kd.int .i64) 2 w36 w.heap.size (fun _ => True) (.slice (some ⟨go31, 0, none⟩) x4_2.length co34) y215 := (by rw [hw, Ny215.out]; exact HP35.1); clear HP35; replace BK202 := Aside0.mk (blk_grown (g := gb202) (o := .cells #[.int .i64 a0_0, .int .i64 a0_1, .int .i64 a0_2, .int .i64 a0_3] 46 (0, 0)) (bl_ BK202).out hg (Kd.R_ne HO_4.out BK202.out (by decide))); replace BK203 := Aside0.mk (blk_grown (g := gb203) (o := .cells #[.int .i64 0, .int .i64 0, .int .i64 0, .int .i64 0] 46 (0, 0)) (bl_ BK203).out hg (Kd.R_ne HO_4.out BK203.out (by decide))); replace HO_4 := Aside0.mk (hp_); replace HB := Aside0.mk ((by rw [hw]; exact below_set (HB.out) GB31.out : Below w.heap.size w w36)); clear hg hw hp_; have p216 : 0 ≤ (x9_2 : Int) := od_; have q216 : x9_2 < (y215.length : Int) := (by have h_ : (x9_2 : Int) < ((x4_2.length : Int) : Int) := od_; first | (have e_ := (Kd.R_reads' HO_4.out).1; omega) | simpa only [Ny215.out, List.length_set] using h_); have ql216 : ((x9_2 : Int) < ((x4_2.length : Int) : Int)) = True := eq_true od_; obtain ⟨ad216, e216, hx216_0⟩ := Kd.at_int (Kd.R_reads' HO_4.out).2.2 x9_2 p216 q216; obtain rfl : (⟨go31, 0, none⟩ : Addr) = ad216 := (by injection e216); (first | simp only [add_plain] at hx216_0 | simp only [add_at] at hx216_0 | simp only [Addr.add, Nat.zero_add] at hx216_0 | skip); replace p216 := eq_true p216; replace q216 := eq_true q216) | (go_at_call 109; (with_reducible refine (spec_l01In.calls (rd y215 x9_2) (-1000) 1000 t217 _ A33.out).mono ?_); rintro e w' ⟨rfl, ⟨nd, rfl⟩⟩))
     go_roundg k2
     case measure => have := HK1.out; have := HK2.out; omega
     case rel => exact ⟨(y215), (t217), (wrap64 (x9_2 + 1)), en_, en_, H', ⟨by have := HK1.out; have := HK2.out; omega⟩, ⟨by (with_reducible repeat (first | apply Kd.R_alloc | apply Kd.R_drewN | apply Kd.R_drew)); exact HO_4.out⟩, bl_ BK202, bl_ BK203, bw_ HB⟩
    have H' := Aside0.mk H
    clear H
    obtain ⟨Ao37, co37, eo37⟩ := Kd.R_slice HO_4.out
    subst eo37
    have p214 : 0 ≤ (x9_2 : Int) := od_
    have q214 : x9_2 < (x4_2.length : Int) := od_
    obtain ⟨ad214, e214, hx214_0⟩ := Kd.at_int (Kd.R_reads' HO_4.out).2.2 x9_2 p214 q214
    cases e214
    replace p214 := eq_true p214
    replace q214 := eq_true q214
    have p31 : 0 ≤ (x9_2 : Int) := od_
    have q31 : (x9_2 : Int) < ((x4_2.length : Int) : Int) := od_
    obtain ⟨go31, co31, eo31, gb31, gl31, cl31, HG31⟩ := Kd.R_form HO_4.out (by omega)
    (first | cases eo31 | (injection eo31 with ea_ en_ ec_; (first | subst ea_ | (injection ea_ with ea_; subst ea_)); subst ec_; clear en_))
    have GB31 := Aside0.mk gb31
    have GG31 := Aside0.mk HG31
    clear gb31 gl31 HG31
    (first | simp only [add_plain] at hx214_0 | skip)
    obtain ⟨hx31_0, hf31_0⟩ := Kd.R_celln 0 HO_4.out (x9_2 : Int) p31 q31
    replace p31 := eq_true p31
    replace q31 := eq_true q31
    have HP38 := Kd.R_putg HO_4.out (x9_2 : Int) (wrap64 ((wrap64 (Int.tdiv (rd x4_2 x9_2) ji26)) * x6_1))
    go_wp2_with (first | ((with_reducible refine gate_store (t := 2) (p := 81) rfl ?_); refine store_event (t := 2) (p := 81) (v := ?vo_w39) (w1 := (wr.setCell ⟨go31, (x9_2 : Int).toNat, none⟩ (.int .i64 (wrap64 ((wrap64 (Int.tdiv (rd x4_2 x9_2) ji26)) * x6_1))))) ?hg ?ho ?hn ?hr ?_; (case ho => rfl); (case hg => rfl); (case hn => rfl); (case hr => first | (go_simp; done) | (go_simp; rfl)); intro w39 hw; have hg : wr.grownBy w39 (some go31) := (by rw [hw]; exact HP38.2); have hp_ : Kd.R (Kd.int .i64) 2 w39 w.heap.size (fun _ => True) (.slice (some ⟨go31, 0, none⟩) x4_2.length co37) y215 := (by rw [hw, Ny215.out]; exact HP38.1); clear HP38; replace BK202 := Aside0.mk (blk_grown (g := gb202) (o := .cells #[.int .i64 a0_0, .int .i64 a0_1, .int .i64 a0_2, .int .i64 a0_3] 46 (0, 0)) (bl_ BK202).out hg (Kd.R_ne HO_4.out BK202.out (by decide))); replace BK203 := Aside0.mk (blk_grown (g := gb203) (o := .cells #[.int .i64 0, .int .i64 0, .int .i64 0, .int .i64 0] 46 (0, 0)) (bl_ BK203).out hg (Kd.R_ne HO_4.out BK203.out (by decide))); replace HO_4 := Aside0.mk (hp_); replace HB := Aside0.mk ((by rw [hw]; exact below_set (HB.out) GB31.out : Below w.heap.size w w39)); clear hg hw hp_))
    go_roundg k2
    case measure => have := HK1.out; have := HK2.out; omega
    case rel => exact ⟨(y215), (false), (wrap64 (x9_2 + 1)), en_, en_, H', ⟨by have := HK1.out; have := HK2.out; omega⟩, ⟨by (with_reducible repeat (first | apply Kd.R_alloc | apply Kd.R_drewN | apply Kd.R_drew)); exact HO_4.out⟩, bl_ BK202, bl_ BK203, bw_ HB⟩
   by_cases c40 : 0 < (x4_2.length : Int)
   ·rw [if_pos c40] at H
    have c40b0 : decide (0 < (x4_2.length : Int)) = true := decide_eq_true c40
    have c40b1 : decide (0 < x4_2.length) = true := decide_eq_true (by omega)
    clear c40
    by_cases c41 : 1 < (x4_2.length : Int)
    ·rw [if_pos c41] at H
     have c41b0 : decide (1 < (x4_2.length : Int)) = true := decide_eq_true c41
     have c41b1 : decide (1 < x4_2.length) = true := decide_eq_true (by omega)
     clear c41
     by_cases c42 : 2 < (x4_2.length : Int)
     ·rw [if_pos c42] at H
      have c42b0 : decide (2 < (x4_2.length : Int)) = true := decide_eq_true c42
      have c42b1 : decide (2 < x4_2.length) = true := decide_eq_true (by omega)
      clear c42
      by_cases c43 : 3 < (x4_2.length : Int)
      ·rw [if_pos c43] at H
       have c43b0 : decide (3 < (x4_2.length : Int)) = true := decide_eq_true c43
       have c43b1 : decide (3 < x4_2.length) = true := decide_eq_true (by omega)
       clear c43
       simp only [Option.some.injEq, Prod.mk.injEq] at H
       obtain ⟨rfl, rfl, rfl, rfl, rfl⟩ := H
       try go_wp2
       replace HO_4 := Aside0.mk (Kd.R_drew HO_4.out)
       replace BK202 := bd_ BK202
       replace BK203 := bd_ BK203
       replace HB := be_ HB
       obtain ⟨Ao45, co45, eo45⟩ := Kd.R_slice HO_4.out
       (first | subst eo45 | (injection eo45 with f1_ f2_ f3_; have f4_ := f1_.symm; have f5_ := f3_.symm; clear f1_ f2_ f3_; subst f4_; subst f5_))
       have p218 : 0 ≤ (0 : Int) := (by omega)
       have q218 : 0 < (x4_2.length : Int) := od_
       obtain ⟨ad218, e218, hx218_0⟩ := Kd.at_int (Kd.R_reads' HO_4.out).2.2 0 p218 q218
       cases e218
       have qi218 : (0 < x4_2.length) = True := eq_true (by omega)
       (try rw [show ((0 : Int)).toNat = 0 from rfl] at hx218_0)
       (try rw [Addr.add_zero'] at hx218_0)
       replace p218 := eq_true p218
       replace q218 := eq_true q218
       have p219 : 0 ≤ (1 : Int) := (by omega)
       have q219 : 1 < (x4_2.length : Int) := od_
       obtain ⟨ad219, e219, hx219_0⟩ := Kd.at_int (Kd.R_reads' HO_4.out).2.2 1 p219 q219
       obtain rfl : ad218 = ad219 := (by injection e219)
       (try simp only [show (1 : Int).toNat = 1 from rfl, Nat.reduceMul, Nat.reduceEqDiff, Go.Addr.add, ↓reduceIte] at hx219_0)
       have qi219 : (1 < x4_2.length) = True := eq_true (by omega)
       (try rw [show ((1 : Int)).toNat = 1 from rfl] at hx219_0)
       replace p219 := eq_true p219
       replace q219 := eq_true q219
       have p220 : 0 ≤ (2 : Int) := (by omega)
       have q220 : 2 < (x4_2.length : Int) := od_
       obtain ⟨ad220, e220, hx220_0⟩ := Kd.at_int (Kd.R_reads' HO_4.out).2.2 2 p220 q220
       obtain rfl : ad218 = ad220 := (by injection e220)
       (try simp only [show (2 : Int).toNat = 2 from rfl, Nat.reduceMul, Nat.reduceEqDiff, Go.Addr.add, ↓reduceIte] at hx220_0)
       have qi220 : (2 < x4_2.length) = True := eq_true (by omega)
       (try rw [show ((2 : Int)).toNat = 2 from rfl] at hx220_0)
       replace p220 := eq_true p220
       replace q220 := eq_true q220
       have p221 : 0 ≤ (3 : Int) := (by omega)
       have q221 : 3 < (x4_2.length : Int) := od_
       obtain ⟨ad221, e221, hx221_0⟩ := Kd.at_int (Kd.R_reads' HO_4.out).2.2 3 p221 q221
       obtain rfl : ad218 = ad221 := (by injection e221)
       (try simp only [show (3 : Int).toNat = 3 from rfl, Nat.reduceMul, Nat.reduceEqDiff, Go.Addr.add, ↓reduceIte] at hx221_0)
       have qi221 : (3 < x4_2.length) = True := eq_true (by omega)
       (try rw [show ((3 : Int)).toNat = 3 from rfl] at hx221_0)
       replace p221 := eq_true p221
       replace q221 := eq_true q221
       refine start_ (n := 18) (S := fun w' => w'.cell? ad218 = some (.int .i64 (rd x4_2 0)) ∧ w'.cell? ⟨ad218.block, ad218.off + 1, none⟩ = some (.int .i64 (rd x4_2 1)) ∧ w'.cell? ⟨ad218.block, ad218.off + 2, none⟩ = some (.int .i64 (rd x4_2 2)) ∧ w'.cell? ⟨ad218.block, ad218.off + 3, none⟩ = some (.int .i64 (rd x4_2 3))) (ds := []) (bv_ 18 0) (by kernel_rfl) rfl rfl ⟨hx218_0, hx219_0, hx220_0, hx221_0⟩ (fun hHeld => ?_); refine with_tabW spec_l04Reduce.tab16 spec_l04Reduce.bits16 (fun HT_ HW_ => ?_)
       generalize wr.drew = w44 at HO_4 BK202 BK203 HB hx218_0 hx219_0 hx220_0 hx221_0 hHeld ⊢
       refine px_ HT_ 0 90 1 ?_
       refine px_ HT_ 1 91 3 ?_
       refine px_ HT_ 3 93 11 ?_
       refine px_ HT_ 4 94 27 ?_
       refine px_ HT_ 7 97 155 ?_
       refine px_ HT_ 8 98 411 ?_
       refine px_ HT_ 10 100 1435 ?_
       refine px_ HT_ 11 101 3483 ?_
       refine px_ HT_ 15 105 36251 ?_
       refine ta_ HT_ HW_ 2 (some 92) (bv_ 18 36255) hHeld ?_ (hy := by rintro w' ⟨s0, s1, s2, s3⟩; go_simp; with_reducible rfl)
       refine ta_ HT_ HW_ 5 (some 95) (bv_ 18 36287) hHeld ?_ (hy := by rintro w' ⟨s0, s1, s2, s3⟩; go_simp; with_reducible rfl)
       refine px_ HT_ 6 96 36351 ?_
       refine ta_ HT_ HW_ 9 (some 99) (bv_ 18 36863) hHeld ?_ (hy := by rintro w' ⟨s0, s1, s2, s3⟩; go_simp; with_reducible rfl)
       refine ta_ HT_ HW_ 12 (some 102) (bv_ 18 40959) hHeld ?_ (hy := by rintro w' ⟨s0, s1, s2, s3⟩; go_simp; with_reducible rfl)
       refine px_ HT_ 13 103 49151 ?_
       refine px_ HT_ 14 104 65535 ?_
       refine on_ HT_ 16 none (bv_ 18 131071) (fun K hK => ?_)
       have hs46 : w44.cell? ⟨gb203, 0, none⟩ = some (.int .i64 0) := (blk_cell BK203.out 0).trans rfl
       have hfs46 := blk_frozen BK203.out 0
       have hns46_0 := NB202_203.out
       have hms46_0 := NB203_202.out
       have hs47 : w44.cell? ⟨gb203, 1, none⟩ = some (.int .i64 0) := (blk_cell BK203.out 1).trans rfl
       have hfs47 := blk_frozen BK203.out 1
       have hns47_0 := NB202_203.out
       have hms47_0 := NB203_202.out
       have hs48 : w44.cell? ⟨gb203, 2, none⟩ = some (.int .i64 0) := (blk_cell BK203.out 2).trans rfl
       have hfs48 := blk_frozen BK203.out 2
       have hns48_0 := NB202_203.out
       have hms48_0 := NB203_202.out
       have hs49 : w44.cell? ⟨gb203, 3, none⟩ = some (.int .i64 0) := (blk_cell BK203.out 3).trans rfl
       have hfs49 := blk_frozen BK203.out 3
       have hns49_0 := NB202_203.out
       have hms49_0 := NB203_202.out
       refine skip_ (w1 := ?_) (by rfl) rfl ?_ ?_
       rotate_left
       ·go_simp
        rfl
       refine hK.out _ _ ⟨((cell_far (p := ⟨gb203, _, none⟩) (by first | exact Kd.own_blk (Kd.R_ne HO_4.out BK203.out (by decide)) | (rw [add_block]; exact Kd.own_blk (Kd.R_ne HO_4.out BK203.out (by decide))) | (show (Addr.add _ _).block ≠ _; rw [add_block]; exact Kd.own_blk (Kd.R_ne HO_4.out BK203.out (by decide))) | (dsimp only; exact Kd.own_blk (Kd.R_ne HO_4.out BK203.out (by decide)))) _).trans (((cell_far (p := ⟨gb203, _, none⟩) (by first | exact Kd.own_blk (Kd.R_ne HO_4.out BK203.out (by decide)) | (rw [add_block]; exact Kd.own_blk (Kd.R_ne HO_4.out BK203.out (by decide))) | (show (Addr.add _ _).block ≠ _; rw [add_block]; exact Kd.own_blk (Kd.R_ne HO_4.out BK203.out (by decide))) | (dsimp only; exact Kd.own_blk (Kd.R_ne HO_4.out BK203.out (by decide)))) _).trans (((cell_far (p := ⟨gb203, _, none⟩) (by first | exact Kd.own_blk (Kd.R_ne HO_4.out BK203.out (by decide)) | (rw [add_block]; exact Kd.own_blk (Kd.R_ne HO_4.out BK203.out (by decide))) | (show (Addr.add _ _).block ≠ _; rw [add_block]; exact Kd.own_blk (Kd.R_ne HO_4.out BK203.out (by decide))) | (dsimp only; exact Kd.own_blk (Kd.R_ne HO_4.out BK203.out (by decide)))) _).trans (((cell_far (p := ⟨gb203, _, none⟩) (by first | exact Kd.own_blk (Kd.R_ne HO_4.out BK203.out (by decide)) | (rw [add_block]; exact Kd.own_blk (Kd.R_ne HO_4.out BK203.out (by decide))) | (show (Addr.add _ _).block ≠ _; rw [add_block]; exact Kd.own_blk (Kd.R_ne HO_4.out BK203.out (by decide))) | (dsimp only; exact Kd.own_blk (Kd.R_ne HO_4.out BK203.out (by decide)))) _).trans (hHeld.1)))))))), ((cell_far (p := ⟨gb203, _, none⟩) (by first | exact Kd.own_blk (Kd.R_ne HO_4.out BK203.out (by decide)) | (rw [add_block]; exact Kd.own_blk (Kd.R_ne HO_4.out BK203.out (by decide))) | (show (Addr.add _ _).block ≠ _; rw [add_block]; exact Kd.own_blk (Kd.R_ne HO_4.out BK203.out (by decide))) | (dsimp only; exact Kd.own_blk (Kd.R_ne HO_4.out BK203.out (by decide)))) _).trans (((cell_far (p := ⟨gb203, _, none⟩) (by first | exact Kd.own_blk (Kd.R_ne HO_4.out BK203.out (by decide)) | (rw [add_block]; exact Kd.own_blk (Kd.R_ne HO_4.out BK203.out (by decide))) | (show (Addr.add _ _).block ≠ _; rw [add_block]; exact Kd.own_blk (Kd.R_ne HO_4.out BK203.out (by decide))) | (dsimp only; exact Kd.own_blk (Kd.R_ne HO_4.out BK203.out (by decide)))) _).trans (((cell_far (p := ⟨gb203, _, none⟩) (by first | exact Kd.own_blk (Kd.R_ne HO_4.out BK203.out (by decide)) | (rw [add_block]; exact Kd.own_blk (Kd.R_ne HO_4.out BK203.out (by decide))) | (show (Addr.add _ _).block ≠ _; rw [add_block]; exact Kd.own_blk (Kd.R_ne HO_4.out BK203.out (by decide))) | (dsimp only; exact Kd.own_blk (Kd.R_ne HO_4.out BK203.out (by decide)))) _).trans (((cell_far (p := ⟨gb203, _, none⟩) (by first | exact Kd.own_blk (Kd.R_ne HO_4.out BK203.out (by decide)) | (rw [add_block]; exact Kd.own_blk (Kd.R_ne HO_4.out BK203.out (by decide))) | (show (Addr.add _ _).block ≠ _; rw [add_block]; exact Kd.own_blk (Kd.R_ne HO_4.out BK203.out (by decide))) | (dsimp only; exact Kd.own_blk (Kd.R_ne HO_4.out BK203.out (by decide)))) _).trans (hHeld.2.1)))))))), ((cell_far (p := ⟨gb203, _, none⟩) (by first | exact Kd.own_blk (Kd.R_ne HO_4.out BK203.out (by decide)) | (rw [add_block]; exact Kd.own_blk (Kd.R_ne HO_4.out BK203.out (by decide))) | (show (Addr.add _ _).block ≠ _; rw [add_block]; exact Kd.own_blk (Kd.R_ne HO_4.out BK203.out (by decide))) | (dsimp only; exact Kd.own_blk (Kd.R_ne HO_4.out BK203.out (by decide)))) _).trans (((cell_far (p := ⟨gb203, _, none⟩) (by first | exact Kd.own_blk (Kd.R_ne HO_4.out BK203.out (by decide)) | (rw [add_block]; exact Kd.own_blk (Kd.R_ne HO_4.out BK203.out (by decide))) | (show (Addr.add _ _).block ≠ _; rw [add_block]; exact Kd.own_blk (Kd.R_ne HO_4.out BK203.out (by decide))) | (dsimp only; exact Kd.own_blk (Kd.R_ne HO_4.out BK203.out (by decide)))) _).trans (((cell_far (p := ⟨gb203, _, none⟩) (by first | exact Kd.own_blk (Kd.R_ne HO_4.out BK203.out (by decide)) | (rw [add_block]; exact Kd.own_blk (Kd.R_ne HO_4.out BK203.out (by decide))) | (show (Addr.add _ _).block ≠ _; rw [add_block]; exact Kd.own_blk (Kd.R_ne HO_4.out BK203.out (by decide))) | (dsimp only; exact Kd.own_blk (Kd.R_ne HO_4.out BK203.out (by decide)))) _).trans (((cell_far (p := ⟨gb203, _, none⟩) (by first | exact Kd.own_blk (Kd.R_ne HO_4.out BK203.out (by decide)) | (rw [add_block]; exact Kd.own_blk (Kd.R_ne HO_4.out BK203.out (by decide))) | (show (Addr.add _ _).block ≠ _; rw [add_block]; exact Kd.own_blk (Kd.R_ne HO_4.out BK203.out (by decide))) | (dsimp only; exact Kd.own_blk (Kd.R_ne HO_4.out BK203.out (by decide)))) _).trans (hHeld.2.2.1)))))))), ((cell_far (p := ⟨gb203, _, none⟩) (by first | exact Kd.own_blk (Kd.R_ne HO_4.out BK203.out (by decide)) | (rw [add_block]; exact Kd.own_blk (Kd.R_ne HO_4.out BK203.out (by decide))) | (show (Addr.add _ _).block ≠ _; rw [add_block]; exact Kd.own_blk (Kd.R_ne HO_4.out BK203.out (by decide))) | (dsimp only; exact Kd.own_blk (Kd.R_ne HO_4.out BK203.out (by decide)))) _).trans (((cell_far (p := ⟨gb203, _, none⟩) (by first | exact Kd.own_blk (Kd.R_ne HO_4.out BK203.out (by decide)) | (rw [add_block]; exact Kd.own_blk (Kd.R_ne HO_4.out BK203.out (by decide))) | (show (Addr.add _ _).block ≠ _; rw [add_block]; exact Kd.own_blk (Kd.R_ne HO_4.out BK203.out (by decide))) | (dsimp only; exact Kd.own_blk (Kd.R_ne HO_4.out BK203.out (by decide)))) _).trans (((cell_far (p := ⟨gb203, _, none⟩) (by first | exact Kd.own_blk (Kd.R_ne HO_4.out BK203.out (by decide)) | (rw [add_block]; exact Kd.own_blk (Kd.R_ne HO_4.out BK203.out (by decide))) | (show (Addr.add _ _).block ≠ _; rw [add_block]; exact Kd.own_blk (Kd.R_ne HO_4.out BK203.out (by decide))) | (dsimp only; exact Kd.own_blk (Kd.R_ne HO_4.out BK203.out (by decide)))) _).trans (((cell_far (p := ⟨gb203, _, none⟩) (by first | exact Kd.own_blk (Kd.R_ne HO_4.out BK203.out (by decide)) | (rw [add_block]; exact Kd.own_blk (Kd.R_ne HO_4.out BK203.out (by decide))) | (show (Addr.add _ _).block ≠ _; rw [add_block]; exact Kd.own_blk (Kd.R_ne HO_4.out BK203.out (by decide))) | (dsimp only; exact Kd.own_blk (Kd.R_ne HO_4.out BK203.out (by decide)))) _).trans (hHeld.2.2.2))))))))⟩ (fun hHeld => ?_)
       clear hK K
       refine px_ HT_ 17 3 262143 ?_
       refine done_ (done_of HT_.out (by kernel_rfl)) ?_
       try go_wp2
       refine bodyPost_ret (results_ct rfl _ _ gb203 46 #[.int .i64 (rd x4_2 0), .int .i64 (rd x4_2 1), .int .i64 (rd x4_2 2), .int .i64 (rd x4_2 3)] (0, 0) _ rfl (bp_ BK203).out Try.underlying46 rfl (by kernel_rfl)) rfl ?_
       exact ⟨by first | rfl | (simp [errW_none, errW_some] <;> rfl) | (simp only [← hji26]; first | rfl | (simp [errW_none, errW_some] <;> rfl)) | (simp [*, errW_none, errW_some] <;> rfl), (bw_ HB).out⟩
      rw [if_neg c43] at H
      exact absurd H (by simp)
     rw [if_neg c42] at H
     exact absurd H (by simp)
    rw [if_neg c41] at H
    exact absurd H (by simp)
   rw [if_neg c40] at H
   exact absurd H (by simp)
end Go.Proofs.Ytgoeelhiffbjlaa.QB
