import Derived.Test.YteniblbnmcfmjaaQMx6
import Derived.Test.YteniblbnmcfmjaaQMx20
namespace Go.Proofs.Yteniblbnmcfmjaa.QM
open Go.RowKit Go.Proofs.YteniblbnmcfmjaaW.PrintWords Go.Proofs.YteniblbnmcfmjaaW.PrintLast Go.Proofs.YteniblbnmcfmjaaW.PrintMore
attribute [local go_sem] isSome_setCell max2_int min2_int max_two min_two max_three min_three max_four min_four
set_option linter.unusedVariables false
set_option linter.unusedSimpArgs false

/-! ### spec_l04Reduce: function 33 -/
mutual
def spec_l04Reduce.l0 : Nat → List Int → Int → Int → Int → Option (Int × Int × Int × Int × Bool)
 | 0, _, _, _, _ => none
 | k + 1, x4, x5, x6, x7 => if x7 < 4 then (if 0 ≤ x7 then (if x7 < (x4.length : Int) then ((spec_l01Gcd.f k x5 (mx (rd x4 x7) (wrap64 (-(rd x4 x7))))).bind fun t233 => (if x6 = 0 then (if (rd x4 x7) = 0 then (spec_l04Reduce.l0 k x4 t233 x6 (wrap64 (x7 + 1))) else (if (mx (rd x4 x7) (wrap64 (-(rd x4 x7)))) = 0 then (none) else (spec_l04Reduce.l0 k x4 t233 (wrap64 (Int.tdiv (rd x4 x7) (mx (rd x4 x7) (wrap64 (-(rd x4 x7)))))) (wrap64 (x7 + 1))))) else (spec_l04Reduce.l0 k x4 t233 x6 (wrap64 (x7 + 1))))) else (none)) else (none)) else (spec_l04Reduce.l1 k x4 (mx x5 (wrap64 (-x5))) x6 true 0)
def spec_l04Reduce.l1 : Nat → List Int → Int → Int → Bool → Int → Option (Int × Int × Int × Int × Bool)
 | 0, _, _, _, _, _ => none
 | k + 1, x4, x5, x6, x8, x9 => if x9 < 4 then (if 0 ≤ x9 then (if x9 < (x4.length : Int) then (if x5 = 0 then (none) else ((some (x4.set (x9 : Int).toNat (wrap64 ((wrap64 (Int.tdiv (rd x4 x9) x5)) * x6)) : List Int)).bind fun y239 => (if x8 = true then ((spec_l01In.f (rd y239 x9) (-1000) 1000).bind fun t241 => (spec_l04Reduce.l1 k y239 x5 x6 t241 (wrap64 (x9 + 1)))) else (spec_l04Reduce.l1 k y239 x5 x6 false (wrap64 (x9 + 1)))))) else (none)) else (none)) else (if 0 < (x4.length : Int) then (if 1 < (x4.length : Int) then (if 2 < (x4.length : Int) then (if 3 < (x4.length : Int) then (some (rd x4 0, rd x4 1, rd x4 2, rd x4 3, x8)) else (none)) else (none)) else (none)) else (none))
end
def spec_l04Reduce.f (k : Nat) (a0_0 a0_1 a0_2 a0_3 : Int) : Option (Int × Int × Int × Int × Bool) := spec_l04Reduce.l0 k (([a0_0, a0_1, a0_2, a0_3] : List Int)) 0 0 0
def spec_l04Reduce.T6 : Bool × List (List Nat × List Nat) := (true, [([], []), ([], []), ([], []), ([1, 2], [1, 2]), ([3], [3]), ([], []), ([], []), ([5, 6], [5, 6]), ([7], [7]), ([8], [8]), ([4, 9], [4, 9]), ([0, 10], [0, 10]), ([11, 11, 0, 1, 2, 3, 4, 5, 6, 7, 8, 9, 10, 11], [0, 11])])
def spec_l04Reduce.B6 : List Nat := [0, 0, 0, 6, 14, 0, 0, 96, 224, 480, 1022, 2047, 4095]
theorem spec_l04Reduce.tab6 : rtab .any (opsOf Try.f33 6) = spec_l04Reduce.T6 := by kernel_rfl
theorem spec_l04Reduce.bits6 : waitsOk spec_l04Reduce.T6.2 spec_l04Reduce.B6 = true := by kernel_rfl
def spec_l04Reduce.T8 : Bool × List (List Nat × List Nat) := (true, [([], []), ([], []), ([0, 1], [0, 1]), ([2], [2]), ([], []), ([], []), ([4, 5], [4, 5]), ([6], [6]), ([], []), ([], []), ([8, 9], [8, 9]), ([10], [10]), ([11], [11]), ([7, 12], [7, 12]), ([3, 13], [3, 13]), ([14, 0, 1, 2, 3, 4, 5, 6, 7, 8, 9, 10, 11, 12, 13, 14], [14])])
def spec_l04Reduce.B8 : List Nat := [0, 0, 3, 7, 0, 0, 48, 112, 0, 0, 768, 1792, 3840, 8176, 16383, 32767]
theorem spec_l04Reduce.tab8 : rtab .any (opsOf Try.f33 8) = spec_l04Reduce.T8 := by kernel_rfl
theorem spec_l04Reduce.bits8 : waitsOk spec_l04Reduce.T8.2 spec_l04Reduce.B8 = true := by kernel_rfl
def spec_l04Reduce.T16 : Bool × List (List Nat × List Nat) := (true, [([], []), ([0], [0]), ([1], [1]), ([], []), ([3], [3]), ([4], [4]), ([2, 5], [2, 5]), ([], []), ([7], [7]), ([8], [8]), ([], []), ([10], [10]), ([11], [11]), ([9, 12], [9, 12]), ([6, 13], [6, 13]), ([], []), ([14, 0, 1, 2, 3, 4, 5, 6, 7, 8, 9, 10, 11, 12, 13, 14], [14]), ([15, 16, 0, 1, 2, 3, 4, 5, 6, 7, 8, 9, 10, 11, 12, 13, 14, 15, 16], [15])])
def spec_l04Reduce.B16 : List Nat := [0, 1, 3, 0, 8, 24, 63, 0, 128, 384, 0, 1024, 3072, 8064, 16383, 0, 32767, 131071]
theorem spec_l04Reduce.tab16 : rtab .any (opsOf Try.f33 16) = spec_l04Reduce.T16 := by kernel_rfl
theorem spec_l04Reduce.bits16 : waitsOk spec_l04Reduce.T16.2 spec_l04Reduce.B16 = true := by kernel_rfl
set_option maxHeartbeats 8000000 in
set_option maxRecDepth 100000 in
theorem spec_l04Reduce.calls (k : Nat) (a0_0 a0_1 a0_2 a0_3 r1 r2 r3 r4 : Int) (r5 : Bool) (w : World) (h : spec_l04Reduce.f k a0_0 a0_1 a0_2 a0_3 = some (r1, r2, r3, r4, r5)) :
  Calls Try.prog 33 #[.agg #[.int .i64 a0_0, .int .i64 a0_1, .int .i64 a0_2, .int .i64 a0_3]] w fun e w' => e = .returned (.tuple #[.agg #[.int .i64 r1, .int .i64 r2, .int .i64 r3, .int .i64 r4], .bool r5]) ∧ Below w.heap.size w w' := by
 have hu26 := Try.underlying26
 have hu24 := Try.underlying24
 have HB := Aside0.mk (Below.refl w.heap.size w)
 unfold spec_l04Reduce.f at h
 have H := h
 clear h
 obtain ⟨y228, hy228⟩ : ∃ y_ : List Int, y_ = (([a0_0, a0_1, a0_2, a0_3] : List Int)) := ⟨_, rfl⟩
 replace H : (spec_l04Reduce.l0 k y228 0 0 0) = some (r1, r2, r3, r4, r5) := by first | (rw [hy228]; with_reducible exact H) | (have H2_ := (Option.bind_some _ _).symm.trans H; rw [hy228]; with_reducible exact H2_) | (have H2_ := (Option.bind_some _ _).symm.trans H; with_reducible exact H2_) | with_reducible exact H | (rw [hy228]; exact H) | exact H
 have Ny228 := Aside0.mk hy228
 clear hy228
 have H' := Aside0.mk H
 clear H
 go_enter Try.func33, Try.ntmps33
 go_wp2_with (first | ((refine gd_ 1 ?_); refine by_ 1 #[.int .i64 a0_0, .int .i64 a0_1, .int .i64 a0_2, .int .i64 a0_3] 26 HB ?_; intro gb226 hg w2 BK226 hb GW226 HB_; replace HB := HB_; clear hb hg) | ((refine gd_ 2 ?_); refine by_ 2 #[.int .i64 0, .int .i64 0, .int .i64 0, .int .i64 0] 26 HB ?_; intro gb227 hg w3 BK227 hb GW227 HB_; have NB226_227 := bm_ BK226 hg; have NB227_226 := bn_ BK226 hg; replace BK226 := bb_ BK226 hb; replace HB := HB_; clear hb hg; have hnb4 := NB226_227.out; have hnc4 := NB227_226.out; obtain ⟨hcz5_0, hcz5_1, hcz5_2, hcz5_3, hfz5_0, hfz5_1, hfz5_2, hfz5_3⟩ := ch4_ BK226) | ((refine gd_ 22 ?_); refine Kd.R_lit (Kd.int .i64) _ 2 ?hg (N := 22) ?hd (xs := ([a0_0, a0_1, a0_2, a0_3] : List Int)) (inner := [.int .i64 a0_0, .int .i64 a0_1, .int .i64 a0_2, .int .i64 a0_3]) (ok := fun _ => True) (okp := fun _ => True) ?hr ?hp (fun _ hk => hk) trivial (Below.refl _ _) (Nat.le_refl _) (by simp) ?_; (case hd => rfl); (case hg => rfl); (case hr => first | (go_simp; done) | (go_simp; rfl)); (case hp => exact (Reps.one (show Kd.M (Kd.int .i64) _ _ _ a0_0 [.int .i64 a0_0] from rfl) (Reps.one (show Kd.M (Kd.int .i64) _ _ _ a0_1 [.int .i64 a0_1] from rfl) (Reps.one (show Kd.M (Kd.int .i64) _ _ _ a0_2 [.int .i64 a0_2] from rfl) (Reps.one (show Kd.M (Kd.int .i64) _ _ _ a0_3 [.int .i64 a0_3] from rfl) (Reps.none _ _)))))); intro v229 w6 ho7 hb hg_ hnew_; clear hg_ hnew_; (first | rw [← Ny228.out] at ho7 | (simp only [Int.reduceToNat] at ho7; rw [← Ny228.out] at ho7)); have HO230 := Aside0.mk (Kd.R_lower ho7 (below_size (bw_ HB).out)); replace BK226 := bb_ BK226 hb; replace BK227 := bb_ BK227 hb; replace HB := bt_ HB hb; clear hb ho7))
 go_loopg [5, 6, 7] k (fun kq v5 v6 v7 w' => ∃ (x5_1 : Int) (x6_1 : Int) (x7_1 : Int), v5 = .int .i64 x5_1 ∧ v6 = .int .i64 x6_1 ∧ v7 = .int .i64 x7_1 ∧ Aside0 (spec_l04Reduce.l0 kq y228 x5_1 x6_1 x7_1 = some (r1, r2, r3, r4, r5)) ∧ Aside0 (kq ≤ k) ∧ Aside0 (Kd.R (Kd.int .i64) 2 w' w.heap.size (fun _ => True) v229 y228) ∧ Aside0 (w'.heap[gb226]? = some (.cells #[.int .i64 a0_0, .int .i64 a0_1, .int .i64 a0_2, .int .i64 a0_3] 26 (0, 0))) ∧ Aside0 (w'.heap[gb227]? = some (.cells #[.int .i64 0, .int .i64 0, .int .i64 0, .int .i64 0] 26 (0, 0))) ∧ Aside0 (Below w.heap.size w w'))
 case atStart => exact ⟨(0), (0), (0), en_, en_, en_, H', ⟨Nat.le_refl _⟩, ⟨by (with_reducible repeat (first | apply Kd.R_alloc | apply Kd.R_drewN | apply Kd.R_drew)); exact HO230.out⟩, bl_ BK226, bl_ BK227, bw_ HB⟩
 clear H'
 try clear hcz5_0 hcz5_1 hcz5_2 hcz5_3
 try clear hfz5_0 hfz5_1 hfz5_2 hfz5_3
 obtain ⟨x5_1, x6_1, x7_1, rfl, rfl, rfl, HA, HK1, HO_4, BK226, BK227, HB⟩ := hrel
 cases gk with
 | zero => exact absurd HA.out (by simp [spec_l04Reduce.l0])
 | succ k1 =>
  have H := HA.out
  clear HA
  simp only [spec_l04Reduce.l0] at H
  replace H := il_ H
  rcases H with ⟨c8b0, H⟩ | ⟨c8b0, H⟩
  ·replace H := imn_ H
   obtain ⟨c9b0, H⟩ := H
   replace H := iln_ H
   obtain ⟨c10b0, H⟩ := H
   obtain ⟨ji11, hji11⟩ : ∃ j_ : Int, (mx (rd y228 x7_1) (wrap64 (-(rd y228 x7_1)))) = j_ := ⟨_, rfl⟩
   replace H : ((spec_l01Gcd.f k1 x5_1 (ji11)).bind fun t233 => (if x6_1 = 0 then (if (rd y228 x7_1) = 0 then (spec_l04Reduce.l0 k1 y228 t233 x6_1 (wrap64 (x7_1 + 1))) else (if (ji11) = 0 then (none) else (spec_l04Reduce.l0 k1 y228 t233 (wrap64 (Int.tdiv (rd y228 x7_1) (ji11))) (wrap64 (x7_1 + 1))))) else (spec_l04Reduce.l0 k1 y228 t233 x6_1 (wrap64 (x7_1 + 1))))) = some (r1, r2, r3, r4, r5) := by first | (rw [hji11] at H; exact H) | (simp only [hji11] at H ⊢; exact H)
   have hji11_k : (if (rd y228 x7_1) < (IntKind.i64.wrap (-(rd y228 x7_1))) then (IntKind.i64.wrap (-(rd y228 x7_1))) else (rd y228 x7_1)) = ji11 := by simp only [i64_w]; exact hji11
   have hji11_ : (if (rd y228 x7_1) < (wrap64 (-(rd y228 x7_1))) then (wrap64 (-(rd y228 x7_1))) else (rd y228 x7_1)) = ji11 := hji11
   replace H := oc_ H
   obtain ⟨t233, A12, H⟩ := H
   replace H := ie_ H
   rcases H with ⟨c13b0, c13b1, H⟩ | ⟨c13, c13b0, c13b1, H⟩
   ·replace H := ie_ H
    rcases H with ⟨c14b0, c14b1, H⟩ | ⟨c14, c14b0, c14b1, H⟩
    ·have H' := Aside0.mk H
     clear H
     try go_wp2
     replace HO_4 := Aside0.mk (Kd.R_drew HO_4.out)
     replace BK226 := bd_ BK226
     replace BK227 := bd_ BK227
     replace HB := be_ HB
     obtain ⟨Ao16, co16, eo16⟩ := Kd.R_slice HO_4.out
     (first | subst eo16 | (injection eo16 with f1_ f2_ f3_; have f4_ := f1_.symm; have f5_ := f3_.symm; clear f1_ f2_ f3_; subst f4_; subst f5_))
     have p231 : 0 ≤ (x7_1 : Int) := od_
     have q231 : x7_1 < (y228.length : Int) := od_
     obtain ⟨ad231, e231, hx231_0⟩ := Kd.at_int (Kd.R_reads' HO_4.out).2.2 x7_1 p231 q231
     cases e231
     replace p231 := eq_true p231
     replace q231 := eq_true q231
     have p232 : 0 ≤ (x7_1 : Int) := od_
     have q232 : x7_1 < (y228.length : Int) := od_
     obtain ⟨ad232, e232, hx232_0⟩ := Kd.at_int (Kd.R_reads' HO_4.out).2.2 x7_1 p232 q232
     obtain rfl : ad231 = ad232 := (by injection e232)
     replace p232 := eq_true p232
     replace q232 := eq_true q232
     refine start_ (n := 13) (S := fun w' => w'.cell? (ad231.add (x7_1).toNat) = some (.int .i64 (rd y228 x7_1)) ∧ w'.cell? (ad231.add (x7_1).toNat) = some (.int .i64 (rd y228 x7_1))) (ds := []) (bv_ 13 0) (by kernel_rfl) rfl rfl ⟨hx231_0, hx232_0⟩ (fun hHeld => ?_); refine with_tabW spec_l04Reduce.tab6 spec_l04Reduce.bits6 (fun HT_ HW_ => ?_)
     generalize wr.drew = w15 at HO_4 BK226 BK227 HB hx231_0 hx232_0 hHeld ⊢
     refine px_ HT_ 0 27 1 ?_
     refine px_ HT_ 1 28 3 ?_
     refine px_ HT_ 2 29 7 ?_
     refine px_ HT_ 3 30 15 ?_
     refine px_ HT_ 5 32 47 ?_
     refine px_ HT_ 6 33 111 ?_
     refine px_ HT_ 7 34 239 ?_
     refine ta_ HT_ HW_ 4 (some 31) (bv_ 13 255) hHeld ?_ (hy := by rintro w' ⟨s0, s1⟩; go_simp; with_reducible rfl)
     refine ta_ HT_ HW_ 8 (some 35) (bv_ 13 511) hHeld ?_ (hy := by rintro w' ⟨s0, s1⟩; go_simp; with_reducible rfl)
     refine px_ HT_ 9 36 1023 ?_
     refine px_ HT_ 10 37 2047 ?_
     refine on_ HT_ 11 (some 38) (bv_ 13 4095) (fun K hK => ?_)
     refine gs_ Try.func41 #[.int .i64 x5_1, .int .i64 ji11] ?_ (hargs := by (try simp only [List.map_toArray, List.map_cons, List.map_nil]); first | done | (simp only [hji11]; rfl) | rfl | (simp only [List.length_drop, List.length_take]; rfl))
     with_reducible refine (spec_l01Gcd.calls k1 x5_1 ji11 t233 _ A12.out).mono ?_
     rintro e w17 ⟨rfl, hb⟩
     have HS0_ := (hb.cell (World.block_lt_of_cell? _ _ (hHeld.1))).trans (hHeld.1)
     have HS1_ := (hb.cell (World.block_lt_of_cell? _ _ (hHeld.2))).trans (hHeld.2)
     refine ⟨_, rfl, ?_⟩
     replace HO_4 := rb_ HO_4 hb
     replace BK226 := bb_ BK226 hb
     replace BK227 := bb_ BK227 hb
     replace HB := bt_ HB hb
     try clear hb
     refine hK.out _ _ ⟨HS0_, HS1_⟩ (fun hHeld => ?_)
     clear hK K
     refine nm_ (some 38) ?_
     refine px_ HT_ 12 5 8191 ?_
     refine done_ (done_of HT_.out (by kernel_rfl)) ?_
     have p234 : 0 ≤ (x7_1 : Int) := od_
     have q234 : x7_1 < (y228.length : Int) := od_
     obtain ⟨ad234, e234, hx234_0⟩ := Kd.at_int (Kd.R_reads' HO_4.out).2.2 x7_1 p234 q234
     obtain rfl : ad231 = ad234 := (by injection e234)
     replace p234 := eq_true p234
     replace q234 := eq_true q234
     try go_wp2
     go_roundg k1
     case measure => have := HK1.out; omega
     case rel => exact ⟨(t233), (x6_1), (wrap64 (x7_1 + 1)), en_, en_, en_, H', ⟨by have := HK1.out; omega⟩, ⟨by (with_reducible repeat (first | apply Kd.R_alloc | apply Kd.R_drewN | apply Kd.R_drew)); exact HO_4.out⟩, bl_ BK226, bl_ BK227, bw_ HB⟩
    replace H := ief_ H
    obtain ⟨c18, c18b0, c18b1, H⟩ := H
    have H' := Aside0.mk H
    clear H
    try go_wp2
    replace HO_4 := Aside0.mk (Kd.R_drew HO_4.out)
    replace BK226 := bd_ BK226
    replace BK227 := bd_ BK227
    replace HB := be_ HB
    obtain ⟨Ao20, co20, eo20⟩ := Kd.R_slice HO_4.out
    (first | subst eo20 | (injection eo20 with f1_ f2_ f3_; have f4_ := f1_.symm; have f5_ := f3_.symm; clear f1_ f2_ f3_; subst f4_; subst f5_))
    have p231 : 0 ≤ (x7_1 : Int) := od_
    have q231 : x7_1 < (y228.length : Int) := od_
    obtain ⟨ad231, e231, hx231_0⟩ := Kd.at_int (Kd.R_reads' HO_4.out).2.2 x7_1 p231 q231
    cases e231
    replace p231 := eq_true p231
    replace q231 := eq_true q231
    have p232 : 0 ≤ (x7_1 : Int) := od_
    have q232 : x7_1 < (y228.length : Int) := od_
    obtain ⟨ad232, e232, hx232_0⟩ := Kd.at_int (Kd.R_reads' HO_4.out).2.2 x7_1 p232 q232
    obtain rfl : ad231 = ad232 := (by injection e232)
    replace p232 := eq_true p232
    replace q232 := eq_true q232
    refine start_ (n := 13) (S := fun w' => w'.cell? (ad231.add (x7_1).toNat) = some (.int .i64 (rd y228 x7_1)) ∧ w'.cell? (ad231.add (x7_1).toNat) = some (.int .i64 (rd y228 x7_1))) (ds := []) (bv_ 13 0) (by kernel_rfl) rfl rfl ⟨hx231_0, hx232_0⟩ (fun hHeld => ?_); refine with_tabW spec_l04Reduce.tab6 spec_l04Reduce.bits6 (fun HT_ HW_ => ?_)
    generalize wr.drew = w19 at HO_4 BK226 BK227 HB hx231_0 hx232_0 hHeld ⊢
    refine px_ HT_ 0 27 1 ?_
    refine px_ HT_ 1 28 3 ?_
    refine px_ HT_ 2 29 7 ?_
    refine px_ HT_ 3 30 15 ?_
    refine px_ HT_ 5 32 47 ?_
    refine px_ HT_ 6 33 111 ?_
    refine px_ HT_ 7 34 239 ?_
    refine ta_ HT_ HW_ 4 (some 31) (bv_ 13 255) hHeld ?_ (hy := by rintro w' ⟨s0, s1⟩; go_simp; with_reducible rfl)
    refine ta_ HT_ HW_ 8 (some 35) (bv_ 13 511) hHeld ?_ (hy := by rintro w' ⟨s0, s1⟩; go_simp; with_reducible rfl)
    refine px_ HT_ 9 36 1023 ?_
    refine px_ HT_ 10 37 2047 ?_
    refine on_ HT_ 11 (some 38) (bv_ 13 4095) (fun K hK => ?_)
    refine gs_ Try.func41 #[.int .i64 x5_1, .int .i64 ji11] ?_ (hargs := by (try simp only [List.map_toArray, List.map_cons, List.map_nil]); first | done | (simp only [hji11]; rfl) | rfl | (simp only [List.length_drop, List.length_take]; rfl))
    with_reducible refine (spec_l01Gcd.calls k1 x5_1 ji11 t233 _ A12.out).mono ?_
    rintro e w21 ⟨rfl, hb⟩
    have HS0_ := (hb.cell (World.block_lt_of_cell? _ _ (hHeld.1))).trans (hHeld.1)
    have HS1_ := (hb.cell (World.block_lt_of_cell? _ _ (hHeld.2))).trans (hHeld.2)
    refine ⟨_, rfl, ?_⟩
    replace HO_4 := rb_ HO_4 hb
    replace BK226 := bb_ BK226 hb
    replace BK227 := bb_ BK227 hb
    replace HB := bt_ HB hb
    try clear hb
    refine hK.out _ _ ⟨HS0_, HS1_⟩ (fun hHeld => ?_)
    clear hK K
    refine nm_ (some 38) ?_
    refine px_ HT_ 12 5 8191 ?_
    refine done_ (done_of HT_.out (by kernel_rfl)) ?_
    have p234 : 0 ≤ (x7_1 : Int) := od_
    have q234 : x7_1 < (y228.length : Int) := od_
    obtain ⟨ad234, e234, hx234_0⟩ := Kd.at_int (Kd.R_reads' HO_4.out).2.2 x7_1 p234 q234
    obtain rfl : ad231 = ad234 := (by injection e234)
    replace p234 := eq_true p234
    replace q234 := eq_true q234
    try go_wp2
    replace HO_4 := Aside0.mk (Kd.R_drew HO_4.out)
    replace BK226 := bd_ BK226
    replace BK227 := bd_ BK227
    replace HB := be_ HB
    have p235 : 0 ≤ (x7_1 : Int) := od_
    have q235 : x7_1 < (y228.length : Int) := od_
    obtain ⟨ad235, e235, hx235_0⟩ := Kd.at_int (Kd.R_reads' HO_4.out).2.2 x7_1 p235 q235
    obtain rfl : ad231 = ad235 := (by injection e235)
    replace p235 := eq_true p235
    replace q235 := eq_true q235
    have p236 : 0 ≤ (x7_1 : Int) := od_
    have q236 : x7_1 < (y228.length : Int) := od_
    obtain ⟨ad236, e236, hx236_0⟩ := Kd.at_int (Kd.R_reads' HO_4.out).2.2 x7_1 p236 q236
    obtain rfl : ad231 = ad236 := (by injection e236)
    replace p236 := eq_true p236
    replace q236 := eq_true q236
    have p237 : 0 ≤ (x7_1 : Int) := od_
    have q237 : x7_1 < (y228.length : Int) := od_
    obtain ⟨ad237, e237, hx237_0⟩ := Kd.at_int (Kd.R_reads' HO_4.out).2.2 x7_1 p237 q237
    obtain rfl : ad231 = ad237 := (by injection e237)
    replace p237 := eq_true p237
    replace q237 := eq_true q237
    refine start_ (n := 16) (S := fun w' => w'.cell? (ad231.add (x7_1).toNat) = some (.int .i64 (rd y228 x7_1)) ∧ w'.cell? (ad231.add (x7_1).toNat) = some (.int .i64 (rd y228 x7_1)) ∧ w'.cell? (ad231.add (x7_1).toNat) = some (.int .i64 (rd y228 x7_1))) (ds := []) (bv_ 16 0) (by kernel_rfl) rfl rfl ⟨hx235_0, hx236_0, hx237_0⟩ (fun hHeld => ?_); refine with_tabW spec_l04Reduce.tab8 spec_l04Reduce.bits8 (fun HT_ HW_ => ?_)
    generalize w21.drew = w22 at HO_4 BK226 BK227 HB hx235_0 hx236_0 hx237_0 hHeld ⊢
    refine px_ HT_ 0 48 1 ?_
    refine px_ HT_ 1 49 3 ?_
    refine px_ HT_ 2 50 7 ?_
    refine px_ HT_ 4 52 23 ?_
    refine px_ HT_ 5 53 55 ?_
    refine px_ HT_ 6 54 119 ?_
    refine px_ HT_ 8 56 375 ?_
    refine px_ HT_ 9 57 887 ?_
    refine px_ HT_ 10 58 1911 ?_
    refine ta_ HT_ HW_ 3 (some 51) (bv_ 16 1919) hHeld ?_ (hy := by rintro w' ⟨s0, s1, s2⟩; go_simp; with_reducible rfl)
    refine ta_ HT_ HW_ 7 (some 55) (bv_ 16 2047) hHeld ?_ (hy := by rintro w' ⟨s0, s1, s2⟩; go_simp; with_reducible rfl)
    refine ta_ HT_ HW_ 11 (some 59) (bv_ 16 4095) hHeld ?_ (hy := by rintro w' ⟨s0, s1, s2⟩; go_simp; with_reducible rfl)
    refine px_ HT_ 12 60 8191 ?_
    refine px_ HT_ 13 61 16383 ?_
    refine px_ HT_ 14 62 32767 ?_
    refine px_ HT_ 15 6 65535 ?_
    refine done_ (done_of HT_.out (by kernel_rfl)) ?_
    try go_wp2
    go_roundg k1
    case measure => have := HK1.out; omega
    case rel => exact ⟨(t233), (wrap64 (Int.tdiv (rd y228 x7_1) (ji11))), (wrap64 (x7_1 + 1)), en_, (by first | rfl | (simp; done) | (simp only [← hji11] <;> (first | rfl | simp)) | (simp [*]; done)), en_, H', ⟨by have := HK1.out; omega⟩, ⟨by (with_reducible repeat (first | apply Kd.R_alloc | apply Kd.R_drewN | apply Kd.R_drew)); exact HO_4.out⟩, bl_ BK226, bl_ BK227, bw_ HB⟩
   have H' := Aside0.mk H
   clear H
   try go_wp2
   replace HO_4 := Aside0.mk (Kd.R_drew HO_4.out)
   replace BK226 := bd_ BK226
   replace BK227 := bd_ BK227
   replace HB := be_ HB
   obtain ⟨Ao24, co24, eo24⟩ := Kd.R_slice HO_4.out
   (first | subst eo24 | (injection eo24 with f1_ f2_ f3_; have f4_ := f1_.symm; have f5_ := f3_.symm; clear f1_ f2_ f3_; subst f4_; subst f5_))
   have p231 : 0 ≤ (x7_1 : Int) := od_
   have q231 : x7_1 < (y228.length : Int) := od_
   obtain ⟨ad231, e231, hx231_0⟩ := Kd.at_int (Kd.R_reads' HO_4.out).2.2 x7_1 p231 q231
   cases e231
   replace p231 := eq_true p231
   replace q231 := eq_true q231
   have p232 : 0 ≤ (x7_1 : Int) := od_
   have q232 : x7_1 < (y228.length : Int) := od_
   obtain ⟨ad232, e232, hx232_0⟩ := Kd.at_int (Kd.R_reads' HO_4.out).2.2 x7_1 p232 q232
   obtain rfl : ad231 = ad232 := (by injection e232)
   replace p232 := eq_true p232
   replace q232 := eq_true q232
   refine start_ (n := 13) (S := fun w' => w'.cell? (ad231.add (x7_1).toNat) = some (.int .i64 (rd y228 x7_1)) ∧ w'.cell? (ad231.add (x7_1).toNat) = some (.int .i64 (rd y228 x7_1))) (ds := []) (bv_ 13 0) (by kernel_rfl) rfl rfl ⟨hx231_0, hx232_0⟩ (fun hHeld => ?_); refine with_tabW spec_l04Reduce.tab6 spec_l04Reduce.bits6 (fun HT_ HW_ => ?_)
   generalize wr.drew = w23 at HO_4 BK226 BK227 HB hx231_0 hx232_0 hHeld ⊢
   refine px_ HT_ 0 27 1 ?_
   refine px_ HT_ 1 28 3 ?_
   refine px_ HT_ 2 29 7 ?_
   refine px_ HT_ 3 30 15 ?_
   refine px_ HT_ 5 32 47 ?_
   refine px_ HT_ 6 33 111 ?_
   refine px_ HT_ 7 34 239 ?_
   refine ta_ HT_ HW_ 4 (some 31) (bv_ 13 255) hHeld ?_ (hy := by rintro w' ⟨s0, s1⟩; go_simp; with_reducible rfl)
   refine ta_ HT_ HW_ 8 (some 35) (bv_ 13 511) hHeld ?_ (hy := by rintro w' ⟨s0, s1⟩; go_simp; with_reducible rfl)
   refine px_ HT_ 9 36 1023 ?_
   refine px_ HT_ 10 37 2047 ?_
   refine on_ HT_ 11 (some 38) (bv_ 13 4095) (fun K hK => ?_)
   refine gs_ Try.func41 #[.int .i64 x5_1, .int .i64 ji11] ?_ (hargs := by (try simp only [List.map_toArray, List.map_cons, List.map_nil]); first | done | (simp only [hji11]; rfl) | rfl | (simp only [List.length_drop, List.length_take]; rfl))
   with_reducible refine (spec_l01Gcd.calls k1 x5_1 ji11 t233 _ A12.out).mono ?_
   rintro e w25 ⟨rfl, hb⟩
   have HS0_ := (hb.cell (World.block_lt_of_cell? _ _ (hHeld.1))).trans (hHeld.1)
   have HS1_ := (hb.cell (World.block_lt_of_cell? _ _ (hHeld.2))).trans (hHeld.2)
   refine ⟨_, rfl, ?_⟩
   replace HO_4 := rb_ HO_4 hb
   replace BK226 := bb_ BK226 hb
   replace BK227 := bb_ BK227 hb
   replace HB := bt_ HB hb
   try clear hb
   refine hK.out _ _ ⟨HS0_, HS1_⟩ (fun hHeld => ?_)
   clear hK K
   refine nm_ (some 38) ?_
   refine px_ HT_ 12 5 8191 ?_
   refine done_ (done_of HT_.out (by kernel_rfl)) ?_
   try go_wp2
   go_roundg k1
   case measure => have := HK1.out; omega
   case rel => exact ⟨(t233), (x6_1), (wrap64 (x7_1 + 1)), en_, en_, en_, H', ⟨by have := HK1.out; omega⟩, ⟨by (with_reducible repeat (first | apply Kd.R_alloc | apply Kd.R_drewN | apply Kd.R_drew)); exact HO_4.out⟩, bl_ BK226, bl_ BK227, bw_ HB⟩
  obtain ⟨ji26, hji26⟩ : ∃ j_ : Int, (mx x5_1 (wrap64 (-x5_1))) = j_ := ⟨_, rfl⟩
  replace H : (spec_l04Reduce.l1 k1 y228 ji26 x6_1 true 0) = some (r1, r2, r3, r4, r5) := by first | (rw [hji26] at H; exact H) | (simp only [hji26] at H ⊢; exact H)
  have hji26_k : (if x5_1 < (IntKind.i64.wrap (-x5_1)) then (IntKind.i64.wrap (-x5_1)) else x5_1) = ji26 := by simp only [i64_w]; exact hji26
  have hji26_ : (if x5_1 < (wrap64 (-x5_1)) then (wrap64 (-x5_1)) else x5_1) = ji26 := hji26
  have H' := Aside0.mk H
  clear H
  go_wp2
  go_loopg [8, 9] k1 (fun kq v8 v9 w' => ∃ (x4_2 : List Int) (x8_2 : Bool) (x9_2 : Int), v8 = .bool x8_2 ∧ v9 = .int .i64 x9_2 ∧ Aside0 (spec_l04Reduce.l1 kq x4_2 ji26 x6_1 x8_2 x9_2 = some (r1, r2, r3, r4, r5)) ∧ Aside0 (kq ≤ k1) ∧ Aside0 (Kd.R (Kd.int .i64) 2 w' w.heap.size (fun _ => True) v229 x4_2) ∧ Aside0 (w'.heap[gb226]? = some (.cells #[.int .i64 a0_0, .int .i64 a0_1, .int .i64 a0_2, .int .i64 a0_3] 26 (0, 0))) ∧ Aside0 (w'.heap[gb227]? = some (.cells #[.int .i64 0, .int .i64 0, .int .i64 0, .int .i64 0] 26 (0, 0))) ∧ Aside0 (Below w.heap.size w w'))
  case atStart => exact ⟨(y228), (true), (0), en_, en_, H', ⟨Nat.le_refl _⟩, ⟨by (with_reducible repeat (first | apply Kd.R_alloc | apply Kd.R_drewN | apply Kd.R_drew)); exact HO_4.out⟩, bl_ BK226, bl_ BK227, bw_ HB⟩
  clear H'
  try clear c8b0
  try clear c13
  try clear c13b0
  try clear c13b1
  try clear c14
  try clear c14b0
  try clear c14b1
  try clear c18
  try clear c18b0
  try clear c18b1
  try clear hx231_0
  try clear hx232_0
  try clear hx234_0
  try clear hx235_0
  try clear hx236_0
  try clear hx237_0
  try clear p231
  try clear p232
  try clear p234
  try clear p235
  try clear p236
  try clear p237
  try clear q231
  try clear q232
  try clear q234
  try clear q235
  try clear q236
  try clear q237
  obtain ⟨x4_2, x8_2, x9_2, rfl, rfl, HA, HK2, HO_4, BK226, BK227, HB⟩ := hrel
  cases gk with
  | zero => exact absurd HA.out (by simp [spec_l04Reduce.l1])
  | succ k2 =>
   have H := HA.out
   clear HA
   simp only [spec_l04Reduce.l1] at H
   replace H := il_ H
   rcases H with ⟨c27b0, H⟩ | ⟨c27b0, H⟩
   ·replace H := imn_ H
    obtain ⟨c28b0, H⟩ := H
    replace H := iln_ H
    obtain ⟨c29b0, H⟩ := H
    replace H := ief_ H
    obtain ⟨c30, c30b0, c30b1, H⟩ := H
    obtain ⟨y239, hy239⟩ : ∃ y_ : List Int, y_ = (x4_2.set (x9_2 : Int).toNat (wrap64 ((wrap64 (Int.tdiv (rd x4_2 x9_2) ji26)) * x6_1))) := ⟨_, rfl⟩
    replace H : (if x8_2 = true then ((spec_l01In.f (rd y239 x9_2) (-1000) 1000).bind fun t241 => (spec_l04Reduce.l1 k2 y239 ji26 x6_1 t241 (wrap64 (x9_2 + 1)))) else (spec_l04Reduce.l1 k2 y239 ji26 x6_1 false (wrap64 (x9_2 + 1)))) = some (r1, r2, r3, r4, r5) := by first | (rw [hy239]; with_reducible exact H) | (have H2_ := (Option.bind_some _ _).symm.trans H; rw [hy239]; with_reducible exact H2_) | (have H2_ := (Option.bind_some _ _).symm.trans H; with_reducible exact H2_) | with_reducible exact H | (rw [hy239]; exact H) | exact H
    have Ny239 := Aside0.mk hy239
    clear hy239
    replace H := ib_ H
    rcases H with ⟨rfl, H⟩ | ⟨rfl, H⟩
    ·replace H := oc_ H
     obtain ⟨t241, A33, H⟩ := H
     have H' := Aside0.mk H
     clear H
     obtain ⟨Ao34, co34, eo34⟩ := Kd.R_slice HO_4.out
     subst eo34
     have p238 : 0 ≤ (x9_2 : Int) := od_
     have q238 : x9_2 < (x4_2.length : Int) := od_
     obtain ⟨ad238, e238, hx238_0⟩ := Kd.at_int (Kd.R_reads' HO_4.out).2.2 x9_2 p238 q238
     cases e238
     replace p238 := eq_true p238
     replace q238 := eq_true q238
     have p31 : 0 ≤ (x9_2 : Int) := od_
     have q31 : (x9_2 : Int) < ((x4_2.length : Int) : Int) := od_
     obtain ⟨go31, co31, eo31, gb31, gl31, cl31, HG31⟩ := Kd.R_form HO_4.out (by omega)
     (first | cases eo31 | (injection eo31 with ea_ en_ ec_; (first | subst ea_ | (injection ea_ with ea_; subst ea_)); subst ec_; clear en_))
     have GB31 := Aside0.mk gb31
     have GG31 := Aside0.mk HG31
     clear gb31 gl31 HG31
     (first | simp only [add_plain] at hx238_0 | skip)
     obtain ⟨hx31_0, hf31_0⟩ := Kd.R_celln 0 HO_4.out (x9_2 : Int) p31 q31
     replace p31 := eq_true p31
     replace q31 := eq_true q31
     have HP35 := Kd.R_putg HO_4.out (x9_2 : Int) (wrap64 ((wrap64 (Int.tdiv (rd x4_2 x9_2) ji26)) * x6_1))
     go_wp2_with (first | ((with_reducible refine gate_store (t := 2) (p := 81) rfl ?_); refine store_event (t := 2) (p := 81) (v := ?vo_w36) (w1 := (wr.setCell ⟨go31, (x9_2 : Int).toNat, none⟩ (.int .i64 (wrap64 ((wrap64 (Int.tdiv (rd x4_2 x9_2) ji26)) * x6_1))))) ?hg ?ho ?hn ?hr ?_; (case ho => rfl); (case hg => rfl); (case hn => rfl); (case hr => first | (go_simp; done) | (go_simp; rfl)); intro w36 hw; have hg : wr.grownBy w36 (some go31) := (by rw [hw]; exact HP35.2); have hp_ : Kd.R (Kd.int .i64) 2 w36 w.heap.size (fun _ => True) (.slice (some ⟨go31, 0, none⟩) x4_2.length co34) y239 := (by rw [hw, Ny239.out]; exact HP35.1); clear HP35; replace BK226 := Aside0.mk (blk_grown (g := gb226) (o := .cells #[.int .i64 a0_0, .int .i64 a0_1, .int .i64 a0_2, .int .i64 a0_3] 26 (0, 0)) (bl_ BK226).out hg (Kd.R_ne HO_4.out BK226.out (by decide))); replace BK227 := Aside0.mk (blk_grown (g := gb227) (o := .cells #[.int .i64 0, .int .i64 0, .int .i64 0, .int .i64 0] 26 (0, 0)) (bl_ BK227).out hg (Kd.R_ne HO_4.out BK227.out (by decide))); replace HO_4 := Aside0.mk (hp_); replace HB := Aside0.mk ((by rw [hw]; exact below_set (HB.out) GB31.out : Below w.heap.size w w36)); clear hg hw hp_; have p240 : 0 ≤ (x9_2 : Int) := od_; have q240 : x9_2 < (y239.length : Int) := (by have h_ : (x9_2 : Int) < ((x4_2.length : Int) : Int) := od_; first | (have e_ := (Kd.R_reads' HO_4.out).1; omega) | simpa only [Ny239.out, List.length_set] using h_); have ql240 : ((x9_2 : Int) < ((x4_2.length : Int) : Int)) = True := eq_true od_; obtain ⟨ad240, e240, hx240_0⟩ := Kd.at_int (Kd.R_reads' HO_4.out).2.2 x9_2 p240 q240; obtain rfl : (⟨go31, 0, none⟩ : Addr) = ad240 := (by injection e240); (first | simp only [add_plain] at hx240_0 | simp only [add_at] at hx240_0 | simp only [Addr.add, Nat.zero_add] at hx240_0 | skip); replace p240 := eq_true p240; replace q240 := eq_true q240) | (go_at_call 38; (with_reducible refine (spec_l01In.calls (rd y239 x9_2) (-1000) 1000 t241 _ A33.out).mono ?_); rintro e w' ⟨rfl, ⟨nd, rfl⟩⟩))
     go_roundg k2
     case measure => have := HK1.out; have := HK2.out; omega
     case rel => exact ⟨(y239), (t241), (wrap64 (x9_2 + 1)), en_, en_, H', ⟨by have := HK1.out; have := HK2.out; omega⟩, ⟨by (with_reducible repeat (first | apply Kd.R_alloc | apply Kd.R_drewN | apply Kd.R_drew)); exact HO_4.out⟩, bl_ BK226, bl_ BK227, bw_ HB⟩
    have H' := Aside0.mk H
    clear H
    obtain ⟨Ao37, co37, eo37⟩ := Kd.R_slice HO_4.out
    subst eo37
    have p238 : 0 ≤ (x9_2 : Int) := od_
    have q238 : x9_2 < (x4_2.length : Int) := od_
    obtain ⟨ad238, e238, hx238_0⟩ := Kd.at_int (Kd.R_reads' HO_4.out).2.2 x9_2 p238 q238
    cases e238
    replace p238 := eq_true p238
    replace q238 := eq_true q238
    have p31 : 0 ≤ (x9_2 : Int) := od_
    have q31 : (x9_2 : Int) < ((x4_2.length : Int) : Int) := od_
    obtain ⟨go31, co31, eo31, gb31, gl31, cl31, HG31⟩ := Kd.R_form HO_4.out (by omega)
    (first | cases eo31 | (injection eo31 with ea_ en_ ec_; (first | subst ea_ | (injection ea_ with ea_; subst ea_)); subst ec_; clear en_))
    have GB31 := Aside0.mk gb31
    have GG31 := Aside0.mk HG31
    clear gb31 gl31 HG31
    (first | simp only [add_plain] at hx238_0 | skip)
    obtain ⟨hx31_0, hf31_0⟩ := Kd.R_celln 0 HO_4.out (x9_2 : Int) p31 q31
    replace p31 := eq_true p31
    replace q31 := eq_true q31
    have HP38 := Kd.R_putg HO_4.out (x9_2 : Int) (wrap64 ((wrap64 (Int.tdiv (rd x4_2 x9_2) ji26)) * x6_1))
    go_wp2_with (first | ((with_reducible refine gate_store (t := 2) (p := 81) rfl ?_); refine store_event (t := 2) (p := 81) (v := ?vo_w39) (w1 := (wr.setCell ⟨go31, (x9_2 : Int).toNat, none⟩ (.int .i64 (wrap64 ((wrap64 (Int.tdiv (rd x4_2 x9_2) ji26)) * x6_1))))) ?hg ?ho ?hn ?hr ?_; (case ho => rfl); (case hg => rfl); (case hn => rfl); (case hr => first | (go_simp; done) | (go_simp; rfl)); intro w39 hw; have hg : wr.grownBy w39 (some go31) := (by rw [hw]; exact HP38.2); have hp_ : Kd.R (Kd.int .i64) 2 w39 w.heap.size (fun _ => True) (.slice (some ⟨go31, 0, none⟩) x4_2.length co37) y239 := (by rw [hw, Ny239.out]; exact HP38.1); clear HP38; replace BK226 := Aside0.mk (blk_grown (g := gb226) (o := .cells #[.int .i64 a0_0, .int .i64 a0_1, .int .i64 a0_2, .int .i64 a0_3] 26 (0, 0)) (bl_ BK226).out hg (Kd.R_ne HO_4.out BK226.out (by decide))); replace BK227 := Aside0.mk (blk_grown (g := gb227) (o := .cells #[.int .i64 0, .int .i64 0, .int .i64 0, .int .i64 0] 26 (0, 0)) (bl_ BK227).out hg (Kd.R_ne HO_4.out BK227.out (by decide))); replace HO_4 := Aside0.mk (hp_); replace HB := Aside0.mk ((by rw [hw]; exact below_set (HB.out) GB31.out : Below w.heap.size w w39)); clear hg hw hp_))
    go_roundg k2
    case measure => have := HK1.out; have := HK2.out; omega
    case rel => exact ⟨(y239), (false), (wrap64 (x9_2 + 1)), en_, en_, H', ⟨by have := HK1.out; have := HK2.out; omega⟩, ⟨by (with_reducible repeat (first | apply Kd.R_alloc | apply Kd.R_drewN | apply Kd.R_drew)); exact HO_4.out⟩, bl_ BK226, bl_ BK227, bw_ HB⟩
   by_cases c40 : 0 < (x4_2.length : Int)
   ·rw [if_pos c40] at H
    have c40b0 : decide (0 < (x4_2.length : Int)) = true := decide_eq_true c40
    have c40b1 : decide (0 < x4_2.length) = true := decide_eq_true (by omega)
    clear c40
    by_cases c41 : 1 < (x4_2.length : Int)
    ·rw [if_pos c41] at H
     have c41b0 : decide (1 < (x4_2.length : Int)) = true := decide_eq_true c41
     have c41b1 : decide (1 < x4_2.length) = true := decide_eq_true (by omega)
     clear c41
     by_cases c42 : 2 < (x4_2.length : Int)
     ·rw [if_pos c42] at H
      have c42b0 : decide (2 < (x4_2.length : Int)) = true := decide_eq_true c42
      have c42b1 : decide (2 < x4_2.length) = true := decide_eq_true (by omega)
      clear c42
      by_cases c43 : 3 < (x4_2.length : Int)
      ·rw [if_pos c43] at H
       have c43b0 : decide (3 < (x4_2.length : Int)) = true := decide_eq_true c43
       have c43b1 : decide (3 < x4_2.length) = true := decide_eq_true (by omega)
       clear c43
       simp only [Option.some.injEq, Prod.mk.injEq] at H
       obtain ⟨rfl, rfl, rfl, rfl, rfl⟩ := H
       try go_wp2
       replace HO_4 := Aside0.mk (Kd.R_drew HO_4.out)
       replace BK226 := bd_ BK226
       replace BK227 := bd_ BK227
       replace HB := be_ HB
       obtain ⟨Ao45, co45, eo45⟩ := Kd.R_slice HO_4.out
       (first | subst eo45 | (injection eo45 with f1_ f2_ f3_; have f4_ := f1_.symm; have f5_ := f3_.symm; clear f1_ f2_ f3_; subst f4_; subst f5_))
       have p242 : 0 ≤ (0 : Int) := (by omega)
       have q242 : 0 < (x4_2.length : Int) := od_
       obtain ⟨ad242, e242, hx242_0⟩ := Kd.at_int (Kd.R_reads' HO_4.out).2.2 0 p242 q242
       cases e242
       have qi242 : (0 < x4_2.length) = True := eq_true (by omega)
       (try rw [show ((0 : Int)).toNat = 0 from rfl] at hx242_0)
       (try rw [Addr.add_zero'] at hx242_0)
       replace p242 := eq_true p242
       replace q242 := eq_true q242
       have p243 : 0 ≤ (1 : Int) := (by omega)
       have q243 : 1 < (x4_2.length : Int) := od_
       obtain ⟨ad243, e243, hx243_0⟩ := Kd.at_int (Kd.R_reads' HO_4.out).2.2 1 p243 q243
       obtain rfl : ad242 = ad243 := (by injection e243)
       (try simp only [show (1 : Int).toNat = 1 from rfl, Nat.reduceMul, Nat.reduceEqDiff, Go.Addr.add, ↓reduceIte] at hx243_0)
       have qi243 : (1 < x4_2.length) = True := eq_true (by omega)
       (try rw [show ((1 : Int)).toNat = 1 from rfl] at hx243_0)
       replace p243 := eq_true p243
       replace q243 := eq_true q243
       have p244 : 0 ≤ (2 : Int) := (by omega)
       have q244 : 2 < (x4_2.length : Int) := od_
       obtain ⟨ad244, e244, hx244_0⟩ := Kd.at_int (Kd.R_reads' HO_4.out).2.2 2 p244 q244
       obtain rfl : ad242 = ad244 := (by injection e244)
       (try simp only [show (2 : Int).toNat = 2 from rfl, Nat.reduceMul, Nat.reduceEqDiff, Go.Addr.add, ↓reduceIte] at hx244_0)
       have qi244 : (2 < x4_2.length) = True := eq_true (by omega)
       (try rw [show ((2 : Int)).toNat = 2 from rfl] at hx244_0)
       replace p244 := eq_true p244
       replace q244 := eq_true q244
       have p245 : 0 ≤ (3 : Int) := (by omega)
       have q245 : 3 < (x4_2.length : Int) := od_
       obtain ⟨ad245, e245, hx245_0⟩ := Kd.at_int (Kd.R_reads' HO_4.out).2.2 3 p245 q245
       obtain rfl : ad242 = ad245 := (by injection e245)
       (try simp only [show (3 : Int).toNat = 3 from rfl, Nat.reduceMul, Nat.reduceEqDiff, Go.Addr.add, ↓reduceIte] at hx245_0)
       have qi245 : (3 < x4_2.length) = True := eq_true (by omega)
       (try rw [show ((3 : Int)).toNat = 3 from rfl] at hx245_0)
       replace p245 := eq_true p245
       replace q245 := eq_true q245
       refine start_ (n := 18) (S := fun w' => w'.cell? ad242 = some (.int .i64 (rd x4_2 0)) ∧ w'.cell? ⟨ad242.block, ad242.off + 1, none⟩ = some (.int .i64 (rd x4_2 1)) ∧ w'.cell? ⟨ad242.block, ad242.off + 2, none⟩ = some (.int .i64 (rd x4_2 2)) ∧ w'.cell? ⟨ad242.block, ad242.off + 3, none⟩ = some (.int .i64 (rd x4_2 3))) (ds := []) (bv_ 18 0) (by kernel_rfl) rfl rfl ⟨hx242_0, hx243_0, hx244_0, hx245_0⟩ (fun hHeld => ?_); refine with_tabW spec_l04Reduce.tab16 spec_l04Reduce.bits16 (fun HT_ HW_ => ?_)
       generalize wr.drew = w44 at HO_4 BK226 BK227 HB hx242_0 hx243_0 hx244_0 hx245_0 hHeld ⊢
       refine px_ HT_ 0 90 1 ?_
       refine px_ HT_ 1 91 3 ?_
       refine px_ HT_ 3 93 11 ?_
       refine px_ HT_ 4 94 27 ?_
       refine px_ HT_ 7 97 155 ?_
       refine px_ HT_ 8 98 411 ?_
       refine px_ HT_ 10 100 1435 ?_
       refine px_ HT_ 11 101 3483 ?_
       refine px_ HT_ 15 105 36251 ?_
       refine ta_ HT_ HW_ 2 (some 92) (bv_ 18 36255) hHeld ?_ (hy := by rintro w' ⟨s0, s1, s2, s3⟩; go_simp; with_reducible rfl)
       refine ta_ HT_ HW_ 5 (some 95) (bv_ 18 36287) hHeld ?_ (hy := by rintro w' ⟨s0, s1, s2, s3⟩; go_simp; with_reducible rfl)
       refine px_ HT_ 6 96 36351 ?_
       refine ta_ HT_ HW_ 9 (some 99) (bv_ 18 36863) hHeld ?_ (hy := by rintro w' ⟨s0, s1, s2, s3⟩; go_simp; with_reducible rfl)
       refine ta_ HT_ HW_ 12 (some 102) (bv_ 18 40959) hHeld ?_ (hy := by rintro w' ⟨s0, s1, s2, s3⟩; go_simp; with_reducible rfl)
       refine px_ HT_ 13 103 49151 ?_
       refine px_ HT_ 14 104 65535 ?_
       refine on_ HT_ 16 none (bv_ 18 131071) (fun K hK => ?_)
       have hs46 : w44.cell? ⟨gb227, 0, none⟩ = some (.int .i64 0) := (blk_cell BK227.out 0).trans rfl
       have hfs46 := blk_frozen BK227.out 0
       have hns46_0 := NB226_227.out
       have hms46_0 := NB227_226.out
       have hs47 : w44.cell? ⟨gb227, 1, none⟩ = some (.int .i64 0) := (blk_cell BK227.out 1).trans rfl
       have hfs47 := blk_frozen BK227.out 1
       have hns47_0 := NB226_227.out
       have hms47_0 := NB227_226.out
       have hs48 : w44.cell? ⟨gb227, 2, none⟩ = some (.int .i64 0) := (blk_cell BK227.out 2).trans rfl
       have hfs48 := blk_frozen BK227.out 2
       have hns48_0 := NB226_227.out
       have hms48_0 := NB227_226.out
       have hs49 : w44.cell? ⟨gb227, 3, none⟩ = some (.int .i64 0) := (blk_cell BK227.out 3).trans rfl
       have hfs49 := blk_frozen BK227.out 3
       have hns49_0 := NB226_227.out
       have hms49_0 := NB227_226.out
       refine skip_ (w1 := ?_) (by rfl) rfl ?_ ?_
       rotate_left
       ·go_simp
        rfl
       refine hK.out _ _ ⟨((cell_far (p := ⟨gb227, _, none⟩) (by first | exact Kd.own_blk (Kd.R_ne HO_4.out BK227.out (by decide)) | (rw [add_block]; exact Kd.own_blk (Kd.R_ne HO_4.out BK227.out (by decide))) | (show (Addr.add _ _).block ≠ _; rw [add_block]; exact Kd.own_blk (Kd.R_ne HO_4.out BK227.out (by decide))) | (dsimp only; exact Kd.own_blk (Kd.R_ne HO_4.out BK227.out (by decide)))) _).trans (((cell_far (p := ⟨gb227, _, none⟩) (by first | exact Kd.own_blk (Kd.R_ne HO_4.out BK227.out (by decide)) | (rw [add_block]; exact Kd.own_blk (Kd.R_ne HO_4.out BK227.out (by decide))) | (show (Addr.add _ _).block ≠ _; rw [add_block]; exact Kd.own_blk (Kd.R_ne HO_4.out BK227.out (by decide))) | (dsimp only; exact Kd.own_blk (Kd.R_ne HO_4.out BK227.out (by decide)))) _).trans (((cell_far (p := ⟨gb227, _, none⟩) (by first | exact Kd.own_blk (Kd.R_ne HO_4.out BK227.out (by decide)) | (rw [add_block]; exact Kd.own_blk (Kd.R_ne HO_4.out BK227.out (by decide))) | (show (Addr.add _ _).block ≠ _; rw [add_block]; exact Kd.own_blk (Kd.R_ne HO_4.out BK227.out (by decide))) | (dsimp only; exact Kd.own_blk (Kd.R_ne HO_4.out BK227.out (by decide)))) _).trans (((cell_far (p := ⟨gb227, _, none⟩) (by first | exact Kd.own_blk (Kd.R_ne HO_4.out BK227.out (by decide)) | (rw [add_block]; exact Kd.own_blk (Kd.R_ne HO_4.out BK227.out (by decide))) | (show (Addr.add _ _).block ≠ _; rw [add_block]; exact Kd.own_blk (Kd.R_ne HO_4.out BK227.out (by decide))) | (dsimp only; exact Kd.own_blk (Kd.R_ne HO_4.out BK227.out (by decide)))) _).trans (hHeld.1)))))))), ((cell_far (p := ⟨gb227, _, none⟩) (by first | exact Kd.own_blk (Kd.R_ne HO_4.out BK227.out (by decide)) | (rw [add_block]; exact Kd.own_blk (Kd.R_ne HO_4.out BK227.out (by decide))) | (show (Addr.add _ _).block ≠ _; rw [add_block]; exact Kd.own_blk (Kd.R_ne HO_4.out BK227.out (by decide))) | (dsimp only; exact Kd.own_blk (Kd.R_ne HO_4.out BK227.out (by decide)))) _).trans (((cell_far (p := ⟨gb227, _, none⟩) (by first | exact Kd.own_blk (Kd.R_ne HO_4.out BK227.out (by decide)) | (rw [add_block]; exact Kd.own_blk (Kd.R_ne HO_4.out BK227.out (by decide))) | (show (Addr.add _ _).block ≠ _; rw [add_block]; exact Kd.own_blk (Kd.R_ne HO_4.out BK227.out (by decide))) | (dsimp only; exact Kd.own_blk (Kd.R_ne HO_4.out BK227.out (by decide)))) _).trans (((cell_far (p := ⟨gb227, _, none⟩) (by first | exact Kd.own_blk (Kd.R_ne HO_4.out BK227.out (by decide)) | (rw [add_block]; exact Kd.own_blk (Kd.R_ne HO_4.out BK227.out (by decide))) | (show (Addr.add _ _).block ≠ _; rw [add_block]; exact Kd.own_blk (Kd.R_ne HO_4.out BK227.out (by decide))) | (dsimp only; exact Kd.own_blk (Kd.R_ne HO_4.out BK227.out (by decide)))) _).trans (((cell_far (p := ⟨gb227, _, none⟩) (by first | exact Kd.own_blk (Kd.R_ne HO_4.out BK227.out (by decide)) | (rw [add_block]; exact Kd.own_blk (Kd.R_ne HO_4.out BK227.out (by decide))) | (show (Addr.add _ _).block ≠ _; rw [add_block]; exact Kd.own_blk (Kd.R_ne HO_4.out BK227.out (by decide))) | (dsimp only; exact Kd.own_blk (Kd.R_ne HO_4.out BK227.out (by decide)))) _).trans (hHeld.2.1)))))))), ((cell_far (p := ⟨gb227, _, none⟩) (by first | exact Kd.own_blk (Kd.R_ne HO_4.out BK227.out (by decide)) | (rw [add_block]; exact Kd.own_blk (Kd.R_ne HO_4.out BK227.out (by decide))) | (show (Addr.add _ _).block ≠ _; rw [add_block]; exact Kd.own_blk (Kd.R_ne HO_4.out BK227.out (by decide))) | (dsimp only; exact Kd.own_blk (Kd.R_ne HO_4.out BK227.out (by decide)))) _).trans (((cell_far (p := ⟨gb227, _, none⟩) (by first | exact Kd.own_blk (Kd.R_ne HO_4.out BK227.out (by decide)) | (rw [add_block]; exact Kd.own_blk (Kd.R_ne HO_4.out BK227.out (by decide))) | (show (Addr.add _ _).block ≠ _; rw [add_block]; exact Kd.own_blk (Kd.R_ne HO_4.out BK227.out (by decide))) | (dsimp only; exact Kd.own_blk (Kd.R_ne HO_4.out BK227.out (by decide)))) _).trans (((cell_far (p := ⟨gb227, _, none⟩) (by first | exact Kd.own_blk (Kd.R_ne HO_4.out BK227.out (by decide)) | (rw [add_block]; exact Kd.own_blk (Kd.R_ne HO_4.out BK227.out (by decide))) | (show (Addr.add _ _).block ≠ _; rw [add_block]; exact Kd.own_blk (Kd.R_ne HO_4.out BK227.out (by decide))) | (dsimp only; exact Kd.own_blk (Kd.R_ne HO_4.out BK227.out (by decide)))) _).trans (((cell_far (p := ⟨gb227, _, none⟩) (by first | exact Kd.own_blk (Kd.R_ne HO_4.out BK227.out (by decide)) | (rw [add_block]; exact Kd.own_blk (Kd.R_ne HO_4.out BK227.out (by decide))) | (show (Addr.add _ _).block ≠ _; rw [add_block]; exact Kd.own_blk (Kd.R_ne HO_4.out BK227.out (by decide))) | (dsimp only; exact Kd.own_blk (Kd.R_ne HO_4.out BK227.out (by decide)))) _).trans (hHeld.2.2.1)))))))), ((cell_far (p := ⟨gb227, _, none⟩) (by first | exact Kd.own_blk (Kd.R_ne HO_4.out BK227.out (by decide)) | (rw [add_block]; exact Kd.own_blk (Kd.R_ne HO_4.out BK227.out (by decide))) | (show (Addr.add _ _).block ≠ _; rw [add_block]; exact Kd.own_blk (Kd.R_ne HO_4.out BK227.out (by decide))) | (dsimp only; exact Kd.own_blk (Kd.R_ne HO_4.out BK227.out (by decide)))) _).trans (((cell_far (p := ⟨gb227, _, none⟩) (by first | exact Kd.own_blk (Kd.R_ne HO_4.out BK227.out (by decide)) | (rw [add_block]; exact Kd.own_blk (Kd.R_ne HO_4.out BK227.out (by decide))) | (show (Addr.add _ _).block ≠ _; rw [add_block]; exact Kd.own_blk (Kd.R_ne HO_4.out BK227.out (by decide))) | (dsimp only; exact Kd.own_blk (Kd.R_ne HO_4.out BK227.out (by decide)))) _).trans (((cell_far (p := ⟨gb227, _, none⟩) (by first | exact Kd.own_blk (Kd.R_ne HO_4.out BK227.out (by decide)) | (rw [add_block]; exact Kd.own_blk (Kd.R_ne HO_4.out BK227.out (by decide))) | (show (Addr.add _ _).block ≠ _; rw [add_block]; exact Kd.own_blk (Kd.R_ne HO_4.out BK227.out (by decide))) | (dsimp only; exact Kd.own_blk (Kd.R_ne HO_4.out BK227.out (by decide)))) _).trans (((cell_far (p := ⟨gb227, _, none⟩) (by first | exact Kd.own_blk (Kd.R_ne HO_4.out BK227.out (by decide)) | (rw [add_block]; exact Kd.own_blk (Kd.R_ne HO_4.out BK227.out (by decide))) | (show (Addr.add _ _).block ≠ _; rw [add_block]; exact Kd.own_blk (Kd.R_ne HO_4.out BK227.out (by decide))) | (dsimp only; exact Kd.own_blk (Kd.R_ne HO_4.out BK227.out (by decide)))) _).trans (hHeld.2.2.2))))))))⟩ (fun hHeld => ?_)
       clear hK K
       refine px_ HT_ 17 3 262143 ?_
       refine done_ (done_of HT_.out (by kernel_rfl)) ?_
       try go_wp2
       refine bodyPost_ret (results_ct rfl _ _ gb227 26 #[.int .i64 (rd x4_2 0), .int .i64 (rd x4_2 1), .int .i64 (rd x4_2 2), .int .i64 (rd x4_2 3)] (0, 0) _ rfl (bp_ BK227).out Try.underlying26 rfl (by kernel_rfl)) rfl ?_
       exact ⟨by first | rfl | (simp [errW_none, errW_some] <;> rfl) | (simp only [← hji26]; first | rfl | (simp [errW_none, errW_some] <;> rfl)) | (simp [*, errW_none, errW_some] <;> rfl), (bw_ HB).out⟩
      rw [if_neg c43] at H
      exact absurd H (by simp)
     rw [if_neg c42] at H
     exact absurd H (by simp)
    rw [if_neg c41] at H
    exact absurd H (by simp)
   rw [if_neg c40] at H
   exact absurd H (by simp)
end Go.Proofs.Yteniblbnmcfmjaa.QM
