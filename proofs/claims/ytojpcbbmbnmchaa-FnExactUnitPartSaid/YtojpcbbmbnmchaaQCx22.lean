-- Written by a program of this session out of Lean's own print of the loaded program; Lean checks it.
import Derived.Test.YtojpcbbmbnmchaaQCx4
import Derived.Test.YtojpcbbmbnmchaaQCx9
import Derived.Test.YtojpcbbmbnmchaaQCx21
namespace Go.Proofs.Ytojpcbbmbnmchaa.QC
open Go.RowKit Go.Proofs.YtojpcbbmbnmchaaW.PrintWords Go.Proofs.YtojpcbbmbnmchaaW.PrintLast Go.Proofs.YtojpcbbmbnmchaaW.PrintMore
attribute [local go_sem] isSome_setCell max2_int min2_int max_two min_two max_three min_three max_four min_four   -- for this text's walks alone
set_option linter.unusedVariables false
set_option linter.unusedSimpArgs false

/-! ### spec_l04Reduce: function 84 -/
mutual
def spec_l04Reduce.l0 : Nat → List Int → Int → Int → Int → Option (Int × Int × Int × Int × Bool)
 | 0, _, _, _, _ => none
 | k + 1, x4, x5, x6, x7 => if x7 < 4 then (if 0 ≤ x7 then (if x7 < (x4.length : Int) then ((spec_l01Gcd.f k x5 (mx (rd x4 x7) (wrap64 (-(rd x4 x7))))).bind fun t172 => (if x6 = 0 then (if (rd x4 x7) = 0 then (spec_l04Reduce.l0 k x4 t172 x6 (wrap64 (x7 + 1))) else (if (mx (rd x4 x7) (wrap64 (-(rd x4 x7)))) = 0 then (none) else (spec_l04Reduce.l0 k x4 t172 (wrap64 (Int.tdiv (rd x4 x7) (mx (rd x4 x7) (wrap64 (-(rd x4 x7)))))) (wrap64 (x7 + 1))))) else (spec_l04Reduce.l0 k x4 t172 x6 (wrap64 (x7 + 1))))) else (none)) else (none)) else (spec_l04Reduce.l1 k x4 (mx x5 (wrap64 (-x5))) x6 true 0)
def spec_l04Reduce.l1 : Nat → List Int → Int → Int → Bool → Int → Option (Int × Int × Int × Int × Bool)
 | 0, _, _, _, _, _ => none
 | k + 1, x4, x5, x6, x8, x9 => if x9 < 4 then (if 0 ≤ x9 then (if x9 < (x4.length : Int) then (if x5 = 0 then (none) else ((some (x4.set (x9 : Int).toNat (wrap64 ((wrap64 (Int.tdiv (rd x4 x9) x5)) * x6)) : List Int)).bind fun y178 => (if x8 = true then ((spec_l01In.f (rd y178 x9) (-1000) 1000).bind fun t180 => (spec_l04Reduce.l1 k y178 x5 x6 t180 (wrap64 (x9 + 1)))) else (spec_l04Reduce.l1 k y178 x5 x6 false (wrap64 (x9 + 1)))))) else (none)) else (none)) else (if 0 < (x4.length : Int) then (if 1 < (x4.length : Int) then (if 2 < (x4.length : Int) then (if 3 < (x4.length : Int) then (some (rd x4 0, rd x4 1, rd x4 2, rd x4 3, x8)) else (none)) else (none)) else (none)) else (none))
end
def spec_l04Reduce.f (k : Nat) (a0_0 : Int) (a0_1 : Int) (a0_2 : Int) (a0_3 : Int) : Option (Int × Int × Int × Int × Bool) := spec_l04Reduce.l0 k (([a0_0, a0_1, a0_2, a0_3] : List Int)) 0 0 0
def spec_l04Reduce.T6 : Bool × List (List Nat × List Nat) := (true, [([], []), ([], []), ([], []), ([1, 2], [1, 2]), ([3], [3]), ([], []), ([], []), ([5, 6], [5, 6]), ([7], [7]), ([8], [8]), ([4, 9], [4, 9]), ([0, 10], [0, 10]), ([11, 11, 0, 1, 2, 3, 4, 5, 6, 7, 8, 9, 10, 11], [0, 11])])
def spec_l04Reduce.B6 : List Nat := [0, 0, 0, 6, 14, 0, 0, 96, 224, 480, 1022, 2047, 4095]
theorem spec_l04Reduce.tab6 : rtab .any (opsOf Try.f84 6) = spec_l04Reduce.T6 := by kernel_rfl
theorem spec_l04Reduce.bits6 : waitsOk spec_l04Reduce.T6.2 spec_l04Reduce.B6 = true := by kernel_rfl
def spec_l04Reduce.T8 : Bool × List (List Nat × List Nat) := (true, [([], []), ([], []), ([0, 1], [0, 1]), ([2], [2]), ([], []), ([], []), ([4, 5], [4, 5]), ([6], [6]), ([], []), ([], []), ([8, 9], [8, 9]), ([10], [10]), ([11], [11]), ([7, 12], [7, 12]), ([3, 13], [3, 13]), ([14, 0, 1, 2, 3, 4, 5, 6, 7, 8, 9, 10, 11, 12, 13, 14], [14])])
def spec_l04Reduce.B8 : List Nat := [0, 0, 3, 7, 0, 0, 48, 112, 0, 0, 768, 1792, 3840, 8176, 16383, 32767]
theorem spec_l04Reduce.tab8 : rtab .any (opsOf Try.f84 8) = spec_l04Reduce.T8 := by kernel_rfl
theorem spec_l04Reduce.bits8 : waitsOk spec_l04Reduce.T8.2 spec_l04Reduce.B8 = true := by kernel_rfl
def spec_l04Reduce.T16 : Bool × List (List Nat × List Nat) := (true, [([], []), ([0], [0]), ([1], [1]), ([], []), ([3], [3]), ([4], [4]), ([2, 5], [2, 5]), ([], []), ([7], [7]), ([8], [8]), ([], []), ([10], [10]), ([11], [11]), ([9, 12], [9, 12]), ([6, 13], [6, 13]), ([], []), ([14, 0, 1, 2, 3, 4, 5, 6, 7, 8, 9, 10, 11, 12, 13, 14], [14]), ([15, 16, 0, 1, 2, 3, 4, 5, 6, 7, 8, 9, 10, 11, 12, 13, 14, 15, 16], [15])])
def spec_l04Reduce.B16 : List Nat := [0, 1, 3, 0, 8, 24, 63, 0, 128, 384, 0, 1024, 3072, 8064, 16383, 0, 32767, 131071]
theorem spec_l04Reduce.tab16 : rtab .any (opsOf Try.f84 16) = spec_l04Reduce.T16 := by kernel_rfl
theorem spec_l04Reduce.bits16 : waitsOk spec_l04Reduce.T16.2 spec_l04Reduce.B16 = true := by kernel_rfl
set_option maxHeartbeats 8000000 in
set_option maxRecDepth 100000 in
theorem spec_l04Reduce.calls (k : Nat) (a0_0 : Int) (a0_1 : Int) (a0_2 : Int) (a0_3 : Int) (r1 : Int) (r2 : Int) (r3 : Int) (r4 : Int) (r5 : Bool) (w : World) (h : spec_l04Reduce.f k a0_0 a0_1 a0_2 a0_3 = some (r1, r2, r3, r4, r5)) :
  Calls Try.prog 84 #[.agg #[.int .i64 a0_0, .int .i64 a0_1, .int .i64 a0_2, .int .i64 a0_3]] w fun e w' => e = .returned (.tuple #[.agg #[.int .i64 r1, .int .i64 r2, .int .i64 r3, .int .i64 r4], .bool r5]) ∧ Below w.heap.size w w' := by
 have hu33 := Try.underlying33
 have hu22 := Try.underlying22
 have HB := Aside0.mk (Below.refl w.heap.size w)
 have H : (spec_l04Reduce.l0 k (([a0_0, a0_1, a0_2, a0_3] : List Int)) 0 0 0) = some (r1, r2, r3, r4, r5) := h
 clear h
 obtain ⟨y167, hy167⟩ : ∃ y_ : List Int, y_ = (([a0_0, a0_1, a0_2, a0_3] : List Int)) := ⟨_, rfl⟩
 replace H : (spec_l04Reduce.l0 k y167 0 0 0) = some (r1, r2, r3, r4, r5) := by first | (rw [hy167]; with_reducible exact H) | (have H2_ := (Option.bind_some _ _).symm.trans H; rw [hy167]; with_reducible exact H2_) | (have H2_ := (Option.bind_some _ _).symm.trans H; with_reducible exact H2_) | with_reducible exact H | (rw [hy167]; exact H) | exact H
 have Ny167 := Aside0.mk hy167
 clear hy167
 have H' := Aside0.mk H
 clear H
 go_enter Try.func84, Try.ntmps84
 go_wp2_with (first | ((with_reducible refine gate_dst (N := 1) rfl ?_); refine bx_ 1 #[.int .i64 a0_0, .int .i64 a0_1, .int .i64 a0_2, .int .i64 a0_3] 33 ?_; intro gb165 hg w2 hbox hb; have BK165 := Aside0.mk (hbox); have GW165 := bs_ HB hg; have GE165 := bs_ HB hg; replace HB := bt_ HB hb; clear hb hbox hg) | ((with_reducible refine gate_dst (N := 2) rfl ?_); refine bx_ 2 #[.int .i64 0, .int .i64 0, .int .i64 0, .int .i64 0] 33 ?_; intro gb166 hg w3 hbox hb; have BK166 := Aside0.mk (hbox); have GW166 := bs_ HB hg; have GE166 := bs_ HB hg; have NB165_166 := bm_ BK165 hg; have NB166_165 := bn_ BK165 hg; replace BK165 := bb_ BK165 hb; replace HB := bt_ HB hb; clear hb hbox hg; have hnb4 := NB165_166.out; have hnc4 := NB166_165.out; have hcz5_0 : w3.cell? ⟨gb165, 0, none⟩ = some (.int .i64 a0_0) := (blk_cell BK165.out 0).trans rfl; have hcz5_1 : w3.cell? ⟨gb165, 1, none⟩ = some (.int .i64 a0_1) := (blk_cell BK165.out 1).trans rfl; have hcz5_2 : w3.cell? ⟨gb165, 2, none⟩ = some (.int .i64 a0_2) := (blk_cell BK165.out 2).trans rfl; have hcz5_3 : w3.cell? ⟨gb165, 3, none⟩ = some (.int .i64 a0_3) := (blk_cell BK165.out 3).trans rfl; have hfz5_0 := blk_frozen BK165.out 0; have hfz5_1 := blk_frozen BK165.out 1; have hfz5_2 := blk_frozen BK165.out 2; have hfz5_3 := blk_frozen BK165.out 3) | ((with_reducible refine gate_dst (N := 22) rfl ?_); refine Kd.R_lit (Kd.int .i64) _ 2 ?hg (N := 22) ?hd (xs := ([a0_0, a0_1, a0_2, a0_3] : List Int)) (inner := [.int .i64 a0_0, .int .i64 a0_1, .int .i64 a0_2, .int .i64 a0_3]) (ok := fun _ => True) (okp := fun _ => True) ?hr ?hp (fun _ hk => hk) trivial (Below.refl _ _) (Nat.le_refl _) (by simp) ?_; (case hd => rfl); (case hg => rfl); (case hr => first | (go_simp; done) | (go_simp; rfl)); (case hp => exact (Reps.one (show Kd.M (Kd.int .i64) _ _ _ a0_0 [.int .i64 a0_0] from rfl) (Reps.one (show Kd.M (Kd.int .i64) _ _ _ a0_1 [.int .i64 a0_1] from rfl) (Reps.one (show Kd.M (Kd.int .i64) _ _ _ a0_2 [.int .i64 a0_2] from rfl) (Reps.one (show Kd.M (Kd.int .i64) _ _ _ a0_3 [.int .i64 a0_3] from rfl) (Reps.none _ _)))))); intro v168 w6 ho7 hb hg_ hnew_; clear hg_ hnew_; (first | rw [← Ny167.out] at ho7 | (simp only [Int.reduceToNat] at ho7; rw [← Ny167.out] at ho7)); have HO169 := Aside0.mk (Kd.R_lower ho7 (below_size (bw_ HB).out)); replace BK165 := bb_ BK165 hb; replace BK166 := bb_ BK166 hb; replace HB := bt_ HB hb; clear hb ho7))
 go_loopg [5, 6, 7] k (fun kq v5 v6 v7 w' => ∃ (x5_1 : Int) (x6_1 : Int) (x7_1 : Int), v5 = .int .i64 x5_1 ∧ v6 = .int .i64 x6_1 ∧ v7 = .int .i64 x7_1 ∧ Aside0 (spec_l04Reduce.l0 kq y167 x5_1 x6_1 x7_1 = some (r1, r2, r3, r4, r5)) ∧ Aside0 (kq ≤ k) ∧ Aside0 (Kd.R (Kd.int .i64) 2 w' w.heap.size (fun _ => True) v168 y167) ∧ Aside0 (w'.heap[gb165]? = some (.cells #[.int .i64 a0_0, .int .i64 a0_1, .int .i64 a0_2, .int .i64 a0_3] 33 (0, 0))) ∧ Aside0 (w'.heap[gb166]? = some (.cells #[.int .i64 0, .int .i64 0, .int .i64 0, .int .i64 0] 33 (0, 0))) ∧ Aside0 (Below w.heap.size w w'))
 case atStart => exact ⟨(0), (0), (0), (by first | rfl | (simp; done) | (simp [*]; done) | (simp [wrap64]; done)), (by first | rfl | (simp; done) | (simp [*]; done) | (simp [wrap64]; done)), (by first | rfl | (simp; done) | (simp [*]; done) | (simp [wrap64]; done)), H', ⟨Nat.le_refl _⟩, ⟨by (with_reducible repeat (first | apply Kd.R_alloc | apply Kd.R_drewN | apply Kd.R_drew)); exact HO169.out⟩, bl_ BK165, bl_ BK166, bw_ HB⟩
 case round =>
  clear H'
  try clear p2
  try clear c4
  try clear hcz5_0
  try clear hcz5_1
  try clear hcz5_2
  try clear hcz5_3
  try clear hfz5_0
  try clear hfz5_1
  try clear hfz5_2
  try clear hfz5_3
  obtain ⟨x5_1, x6_1, x7_1, rfl, rfl, rfl, HA, HK1, HO_4, BK165, BK166, HB⟩ := hrel
  cases gk with
  | zero => exact absurd HA.out (by simp [spec_l04Reduce.l0])
  | succ k1 =>
   have H := HA.out
   clear HA
   simp only [spec_l04Reduce.l0] at H
   by_cases c8 : x7_1 < 4
   ·rw [if_pos c8] at H
    have c8b0 : decide (x7_1 < 4) = true := decide_eq_true c8
    clear c8
    by_cases c9 : 0 ≤ x7_1
    ·rw [if_pos c9] at H
     have c9b0 : decide (0 ≤ x7_1) = true := decide_eq_true c9
     clear c9
     by_cases c10 : x7_1 < (y167.length : Int)
     ·rw [if_pos c10] at H
      have c10b0 : decide (x7_1 < (y167.length : Int)) = true := decide_eq_true c10
      clear c10
      obtain ⟨ji11, hji11⟩ : ∃ j_ : Int, (mx (rd y167 x7_1) (wrap64 (-(rd y167 x7_1)))) = j_ := ⟨_, rfl⟩
      replace H : ((spec_l01Gcd.f k1 x5_1 (ji11)).bind fun t172 => (if x6_1 = 0 then (if (rd y167 x7_1) = 0 then (spec_l04Reduce.l0 k1 y167 t172 x6_1 (wrap64 (x7_1 + 1))) else (if (ji11) = 0 then (none) else (spec_l04Reduce.l0 k1 y167 t172 (wrap64 (Int.tdiv (rd y167 x7_1) (ji11))) (wrap64 (x7_1 + 1))))) else (spec_l04Reduce.l0 k1 y167 t172 x6_1 (wrap64 (x7_1 + 1))))) = some (r1, r2, r3, r4, r5) := by first | (rw [hji11] at H; exact H) | (simp only [hji11] at H ⊢; exact H)
      have hji11_k : (if (rd y167 x7_1) < (IntKind.i64.wrap (-(rd y167 x7_1))) then (IntKind.i64.wrap (-(rd y167 x7_1))) else (rd y167 x7_1)) = ji11 := by simp only [i64_w]; exact hji11
      have hji11_ : (if (rd y167 x7_1) < (wrap64 (-(rd y167 x7_1))) then (wrap64 (-(rd y167 x7_1))) else (rd y167 x7_1)) = ji11 := hji11
      replace H := Option.bind_eq_some_iff.mp H
      obtain ⟨t172, A120, H⟩ := H
      have A12 := Aside0.mk A120
      clear A120
      by_cases c13 : x6_1 = 0
      ·rw [if_pos c13] at H
       have c13b0 : (x6_1 == 0) = true := beq_iff_eq.mpr c13
       have c13b1 : (x6_1 != 0) = false := bne_eq_false_iff_eq.mpr c13
       clear c13
       by_cases c14 : (rd y167 x7_1) = 0
       ·rw [if_pos c14] at H
        have c14b0 : ((rd y167 x7_1) == 0) = true := beq_iff_eq.mpr c14
        have c14b1 : ((rd y167 x7_1) != 0) = false := bne_eq_false_iff_eq.mpr c14
        clear c14
        have H' := Aside0.mk H
        clear H
        try go_wp2
        replace HO_4 := Aside0.mk (Kd.R_drew HO_4.out)
        replace BK165 := Aside0.mk (blk_drew BK165.out)
        replace BK166 := Aside0.mk (blk_drew BK166.out)
        replace HB := Aside0.mk (below_drew1 HB.out)
        obtain ⟨Ao16, co16, eo16⟩ := Kd.R_slice HO_4.out
        (first | subst eo16 | (injection eo16 with f1_ f2_ f3_; have f4_ := f1_.symm; have f5_ := f3_.symm; clear f1_ f2_ f3_; subst f4_; subst f5_))
        have p170 : 0 ≤ (x7_1 : Int) := of_decide_eq_true (by first | (with_reducible assumption) | assumption)
        have q170 : x7_1 < (y167.length : Int) := of_decide_eq_true (by first | (with_reducible assumption) | assumption)
        obtain ⟨ad170, e170, hx170_0⟩ := Kd.at_int (Kd.R_reads' HO_4.out).2.2 x7_1 p170 q170
        cases e170
        replace p170 := eq_true p170
        replace q170 := eq_true q170
        have p171 : 0 ≤ (x7_1 : Int) := of_decide_eq_true (by first | (with_reducible assumption) | assumption)
        have q171 : x7_1 < (y167.length : Int) := of_decide_eq_true (by first | (with_reducible assumption) | assumption)
        obtain ⟨ad171, e171, hx171_0⟩ := Kd.at_int (Kd.R_reads' HO_4.out).2.2 x7_1 p171 q171
        obtain rfl : ad170 = ad171 := (by injection e171)
        replace p171 := eq_true p171
        replace q171 := eq_true q171
        refine start_ (n := 13) (S := fun w' => w'.cell? (ad170.add (x7_1).toNat) = some (.int .i64 (rd y167 x7_1)) ∧ w'.cell? (ad170.add (x7_1).toNat) = some (.int .i64 (rd y167 x7_1))) (ds := []) #[false, false, false, false, false, false, false, false, false, false, false, false, false] (by kernel_rfl) rfl rfl ⟨hx170_0, hx171_0⟩ (fun hHeld => ?_); refine with_tabW spec_l04Reduce.tab6 spec_l04Reduce.bits6 (fun HT_ HW_ => ?_)
        generalize wr.drew = w15 at HO_4 BK165 BK166 HB hx170_0 hx171_0 hHeld ⊢
        refine pu_ HT_ 0 (some 27) #[true, false, false, false, false, false, false, false, false, false, false, false, false] ?_
        refine pu_ HT_ 1 (some 28) #[true, true, false, false, false, false, false, false, false, false, false, false, false] ?_
        refine pu_ HT_ 2 (some 29) #[true, true, true, false, false, false, false, false, false, false, false, false, false] ?_
        refine pu_ HT_ 3 (some 30) #[true, true, true, true, false, false, false, false, false, false, false, false, false] ?_
        refine pu_ HT_ 5 (some 32) #[true, true, true, true, false, true, false, false, false, false, false, false, false] ?_
        refine pu_ HT_ 6 (some 33) #[true, true, true, true, false, true, true, false, false, false, false, false, false] ?_
        refine pu_ HT_ 7 (some 34) #[true, true, true, true, false, true, true, true, false, false, false, false, false] ?_
        refine ta_ HT_ HW_ 4 (some 31) #[true, true, true, true, true, true, true, true, false, false, false, false, false] hHeld ?_ (hy := by rintro w' ⟨s0, s1⟩; go_simp; with_reducible rfl)
        refine ta_ HT_ HW_ 8 (some 35) #[true, true, true, true, true, true, true, true, true, false, false, false, false] hHeld ?_ (hy := by rintro w' ⟨s0, s1⟩; go_simp; with_reducible rfl)
        refine pu_ HT_ 9 (some 36) #[true, true, true, true, true, true, true, true, true, true, false, false, false] ?_
        refine pu_ HT_ 10 (some 37) #[true, true, true, true, true, true, true, true, true, true, true, false, false] ?_
        refine one_ (i := 11) (N := some 38) #[true, true, true, true, true, true, true, true, true, true, true, true, false] rfl rfl (one_of HT_.out (by kernel_rfl)) (by decide) (fun K hK => ?_)
        refine goes_ Try.func102 (by kernel_rfl) rfl #[.int .i64 x5_1, .int .i64 ji11] (by rfl) rfl rfl (by (try simp only [List.map_toArray, List.map_cons, List.map_nil]); first | done | (simp only [hji11]; rfl) | rfl | (simp only [List.length_drop, List.length_take]; rfl)) ?_
        with_reducible refine (spec_l01Gcd.calls k1 x5_1 ji11 t172 _ A12.out).mono ?_
        rintro e w17 ⟨rfl, hb⟩
        have HS0_ := (hb.cell (World.block_lt_of_cell? _ _ (hHeld.1))).trans (hHeld.1)
        have HS1_ := (hb.cell (World.block_lt_of_cell? _ _ (hHeld.2))).trans (hHeld.2)
        refine ⟨_, rfl, ?_⟩
        replace HO_4 := Aside0.mk (Kd.R_below (by (with_reducible repeat (first | apply Kd.R_alloc | apply Kd.R_drewN | apply Kd.R_drew)); exact HO_4.out) hb)
        replace BK165 := bb_ BK165 hb
        replace BK166 := bb_ BK166 hb
        replace HB := bt_ HB hb
        (try clear hb)
        (try clear hb2)
        (try clear hk)
        (try clear hi)
        refine hK.out _ _ ⟨HS0_, HS1_⟩ (fun hHeld => ?_)
        clear hK K
        refine norm_ (a' := ?_) ?_ ?_
        rotate_left
        ·show Act.put _ (some 38) _ = _
         simp only [Act.put, lstS, lstZ, lstC, i64_w, i32_w]
         rfl
        refine pu_ HT_ 12 (some 5) #[true, true, true, true, true, true, true, true, true, true, true, true, true] ?_
        refine done_ (done_of HT_.out (by kernel_rfl)) ?_
        have p173 : 0 ≤ (x7_1 : Int) := of_decide_eq_true (by first | (with_reducible assumption) | assumption)
        have q173 : x7_1 < (y167.length : Int) := of_decide_eq_true (by first | (with_reducible assumption) | assumption)
        obtain ⟨ad173, e173, hx173_0⟩ := Kd.at_int (Kd.R_reads' HO_4.out).2.2 x7_1 p173 q173
        obtain rfl : ad170 = ad173 := (by injection e173)
        replace p173 := eq_true p173
        replace q173 := eq_true q173
        try go_wp2
        go_roundg k1
        case measure => have := HK1.out; omega
        case rel => exact ⟨(t172), (x6_1), (wrap64 (x7_1 + 1)), (by first | rfl | (simp; done) | (simp [*]; done) | (simp [wrap64]; done)), (by first | rfl | (simp; done) | (simp [*]; done) | (simp [wrap64]; done)), (by first | rfl | (simp; done) | (simp [*]; done) | (simp [wrap64]; done)), H', ⟨by have := HK1.out; omega⟩, ⟨by (with_reducible repeat (first | apply Kd.R_alloc | apply Kd.R_drewN | apply Kd.R_drew)); exact HO_4.out⟩, bl_ BK165, bl_ BK166, bw_ HB⟩
       ·rw [if_neg c14] at H
        have c14b0 : ((rd y167 x7_1) == 0) = false := beq_eq_false_iff_ne.mpr c14
        have c14b1 : ((rd y167 x7_1) != 0) = true := bne_iff_ne.mpr c14
        by_cases c18 : (ji11) = 0
        ·rw [if_pos c18] at H
         exact absurd H (by simp)
        ·rw [if_neg c18] at H
         have c18b0 : ((ji11) == 0) = false := beq_eq_false_iff_ne.mpr c18
         have c18b1 : ((ji11) != 0) = true := bne_iff_ne.mpr c18
         have H' := Aside0.mk H
         clear H
         try go_wp2
         replace HO_4 := Aside0.mk (Kd.R_drew HO_4.out)
         replace BK165 := Aside0.mk (blk_drew BK165.out)
         replace BK166 := Aside0.mk (blk_drew BK166.out)
         replace HB := Aside0.mk (below_drew1 HB.out)
         obtain ⟨Ao20, co20, eo20⟩ := Kd.R_slice HO_4.out
         (first | subst eo20 | (injection eo20 with f1_ f2_ f3_; have f4_ := f1_.symm; have f5_ := f3_.symm; clear f1_ f2_ f3_; subst f4_; subst f5_))
         have p170 : 0 ≤ (x7_1 : Int) := of_decide_eq_true (by first | (with_reducible assumption) | assumption)
         have q170 : x7_1 < (y167.length : Int) := of_decide_eq_true (by first | (with_reducible assumption) | assumption)
         obtain ⟨ad170, e170, hx170_0⟩ := Kd.at_int (Kd.R_reads' HO_4.out).2.2 x7_1 p170 q170
         cases e170
         replace p170 := eq_true p170
         replace q170 := eq_true q170
         have p171 : 0 ≤ (x7_1 : Int) := of_decide_eq_true (by first | (with_reducible assumption) | assumption)
         have q171 : x7_1 < (y167.length : Int) := of_decide_eq_true (by first | (with_reducible assumption) | assumption)
         obtain ⟨ad171, e171, hx171_0⟩ := Kd.at_int (Kd.R_reads' HO_4.out).2.2 x7_1 p171 q171
         obtain rfl : ad170 = ad171 := (by injection e171)
         replace p171 := eq_true p171
         replace q171 := eq_true q171
         refine start_ (n := 13) (S := fun w' => w'.cell? (ad170.add (x7_1).toNat) = some (.int .i64 (rd y167 x7_1)) ∧ w'.cell? (ad170.add (x7_1).toNat) = some (.int .i64 (rd y167 x7_1))) (ds := []) #[false, false, false, false, false, false, false, false, false, false, false, false, false] (by kernel_rfl) rfl rfl ⟨hx170_0, hx171_0⟩ (fun hHeld => ?_); refine with_tabW spec_l04Reduce.tab6 spec_l04Reduce.bits6 (fun HT_ HW_ => ?_)
         generalize wr.drew = w19 at HO_4 BK165 BK166 HB hx170_0 hx171_0 hHeld ⊢
         refine pu_ HT_ 0 (some 27) #[true, false, false, false, false, false, false, false, false, false, false, false, false] ?_
         refine pu_ HT_ 1 (some 28) #[true, true, false, false, false, false, false, false, false, false, false, false, false] ?_
         refine pu_ HT_ 2 (some 29) #[true, true, true, false, false, false, false, false, false, false, false, false, false] ?_
         refine pu_ HT_ 3 (some 30) #[true, true, true, true, false, false, false, false, false, false, false, false, false] ?_
         refine pu_ HT_ 5 (some 32) #[true, true, true, true, false, true, false, false, false, false, false, false, false] ?_
         refine pu_ HT_ 6 (some 33) #[true, true, true, true, false, true, true, false, false, false, false, false, false] ?_
         refine pu_ HT_ 7 (some 34) #[true, true, true, true, false, true, true, true, false, false, false, false, false] ?_
         refine ta_ HT_ HW_ 4 (some 31) #[true, true, true, true, true, true, true, true, false, false, false, false, false] hHeld ?_ (hy := by rintro w' ⟨s0, s1⟩; go_simp; with_reducible rfl)
         refine ta_ HT_ HW_ 8 (some 35) #[true, true, true, true, true, true, true, true, true, false, false, false, false] hHeld ?_ (hy := by rintro w' ⟨s0, s1⟩; go_simp; with_reducible rfl)
         refine pu_ HT_ 9 (some 36) #[true, true, true, true, true, true, true, true, true, true, false, false, false] ?_
         refine pu_ HT_ 10 (some 37) #[true, true, true, true, true, true, true, true, true, true, true, false, false] ?_
         refine one_ (i := 11) (N := some 38) #[true, true, true, true, true, true, true, true, true, true, true, true, false] rfl rfl (one_of HT_.out (by kernel_rfl)) (by decide) (fun K hK => ?_)
         refine goes_ Try.func102 (by kernel_rfl) rfl #[.int .i64 x5_1, .int .i64 ji11] (by rfl) rfl rfl (by (try simp only [List.map_toArray, List.map_cons, List.map_nil]); first | done | (simp only [hji11]; rfl) | rfl | (simp only [List.length_drop, List.length_take]; rfl)) ?_
         with_reducible refine (spec_l01Gcd.calls k1 x5_1 ji11 t172 _ A12.out).mono ?_
         rintro e w21 ⟨rfl, hb⟩
         have HS0_ := (hb.cell (World.block_lt_of_cell? _ _ (hHeld.1))).trans (hHeld.1)
         have HS1_ := (hb.cell (World.block_lt_of_cell? _ _ (hHeld.2))).trans (hHeld.2)
         refine ⟨_, rfl, ?_⟩
         replace HO_4 := Aside0.mk (Kd.R_below (by (with_reducible repeat (first | apply Kd.R_alloc | apply Kd.R_drewN | apply Kd.R_drew)); exact HO_4.out) hb)
         replace BK165 := bb_ BK165 hb
         replace BK166 := bb_ BK166 hb
         replace HB := bt_ HB hb
         (try clear hb)
         (try clear hb2)
         (try clear hk)
         (try clear hi)
         refine hK.out _ _ ⟨HS0_, HS1_⟩ (fun hHeld => ?_)
         clear hK K
         refine norm_ (a' := ?_) ?_ ?_
         rotate_left
         ·show Act.put _ (some 38) _ = _
          simp only [Act.put, lstS, lstZ, lstC, i64_w, i32_w]
          rfl
         refine pu_ HT_ 12 (some 5) #[true, true, true, true, true, true, true, true, true, true, true, true, true] ?_
         refine done_ (done_of HT_.out (by kernel_rfl)) ?_
         have p173 : 0 ≤ (x7_1 : Int) := of_decide_eq_true (by first | (with_reducible assumption) | assumption)
         have q173 : x7_1 < (y167.length : Int) := of_decide_eq_true (by first | (with_reducible assumption) | assumption)
         obtain ⟨ad173, e173, hx173_0⟩ := Kd.at_int (Kd.R_reads' HO_4.out).2.2 x7_1 p173 q173
         obtain rfl : ad170 = ad173 := (by injection e173)
         replace p173 := eq_true p173
         replace q173 := eq_true q173
         try go_wp2
         replace HO_4 := Aside0.mk (Kd.R_drew HO_4.out)
         replace BK165 := Aside0.mk (blk_drew BK165.out)
         replace BK166 := Aside0.mk (blk_drew BK166.out)
         replace HB := Aside0.mk (below_drew1 HB.out)
         have p174 : 0 ≤ (x7_1 : Int) := of_decide_eq_true (by first | (with_reducible assumption) | assumption)
         have q174 : x7_1 < (y167.length : Int) := of_decide_eq_true (by first | (with_reducible assumption) | assumption)
         obtain ⟨ad174, e174, hx174_0⟩ := Kd.at_int (Kd.R_reads' HO_4.out).2.2 x7_1 p174 q174
         obtain rfl : ad170 = ad174 := (by injection e174)
         replace p174 := eq_true p174
         replace q174 := eq_true q174
         have p175 : 0 ≤ (x7_1 : Int) := of_decide_eq_true (by first | (with_reducible assumption) | assumption)
         have q175 : x7_1 < (y167.length : Int) := of_decide_eq_true (by first | (with_reducible assumption) | assumption)
         obtain ⟨ad175, e175, hx175_0⟩ := Kd.at_int (Kd.R_reads' HO_4.out).2.2 x7_1 p175 q175
         obtain rfl : ad170 = ad175 := (by injection e175)
         replace p175 := eq_true p175
         replace q175 := eq_true q175
         have p176 : 0 ≤ (x7_1 : Int) := of_decide_eq_true (by first | (with_reducible assumption) | assumption)
         have q176 : x7_1 < (y167.length : Int) := of_decide_eq_true (by first | (with_reducible assumption) | assumption)
         obtain ⟨ad176, e176, hx176_0⟩ := Kd.at_int (Kd.R_reads' HO_4.out).2.2 x7_1 p176 q176
         obtain rfl : ad170 = ad176 := (by injection e176)
         replace p176 := eq_true p176
         replace q176 := eq_true q176
         refine start_ (n := 16) (S := fun w' => w'.cell? (ad170.add (x7_1).toNat) = some (.int .i64 (rd y167 x7_1)) ∧ w'.cell? (ad170.add (x7_1).toNat) = some (.int .i64 (rd y167 x7_1)) ∧ w'.cell? (ad170.add (x7_1).toNat) = some (.int .i64 (rd y167 x7_1))) (ds := []) #[false, false, false, false, false, false, false, false, false, false, false, false, false, false, false, false] (by kernel_rfl) rfl rfl ⟨hx174_0, hx175_0, hx176_0⟩ (fun hHeld => ?_); refine with_tabW spec_l04Reduce.tab8 spec_l04Reduce.bits8 (fun HT_ HW_ => ?_)
         generalize w21.drew = w22 at HO_4 BK165 BK166 HB hx174_0 hx175_0 hx176_0 hHeld ⊢
         refine pu_ HT_ 0 (some 48) #[true, false, false, false, false, false, false, false, false, false, false, false, false, false, false, false] ?_
         refine pu_ HT_ 1 (some 49) #[true, true, false, false, false, false, false, false, false, false, false, false, false, false, false, false] ?_
         refine pu_ HT_ 2 (some 50) #[true, true, true, false, false, false, false, false, false, false, false, false, false, false, false, false] ?_
         refine pu_ HT_ 4 (some 52) #[true, true, true, false, true, false, false, false, false, false, false, false, false, false, false, false] ?_
         refine pu_ HT_ 5 (some 53) #[true, true, true, false, true, true, false, false, false, false, false, false, false, false, false, false] ?_
         refine pu_ HT_ 6 (some 54) #[true, true, true, false, true, true, true, false, false, false, false, false, false, false, false, false] ?_
         refine pu_ HT_ 8 (some 56) #[true, true, true, false, true, true, true, false, true, false, false, false, false, false, false, false] ?_
         refine pu_ HT_ 9 (some 57) #[true, true, true, false, true, true, true, false, true, true, false, false, false, false, false, false] ?_
         refine pu_ HT_ 10 (some 58) #[true, true, true, false, true, true, true, false, true, true, true, false, false, false, false, false] ?_
         refine ta_ HT_ HW_ 3 (some 51) #[true, true, true, true, true, true, true, false, true, true, true, false, false, false, false, false] hHeld ?_ (hy := by rintro w' ⟨s0, s1, s2⟩; go_simp; with_reducible rfl)
         refine ta_ HT_ HW_ 7 (some 55) #[true, true, true, true, true, true, true, true, true, true, true, false, false, false, false, false] hHeld ?_ (hy := by rintro w' ⟨s0, s1, s2⟩; go_simp; with_reducible rfl)
         refine ta_ HT_ HW_ 11 (some 59) #[true, true, true, true, true, true, true, true, true, true, true, true, false, false, false, false] hHeld ?_ (hy := by rintro w' ⟨s0, s1, s2⟩; go_simp; with_reducible rfl)
         refine pu_ HT_ 12 (some 60) #[true, true, true, true, true, true, true, true, true, true, true, true, true, false, false, false] ?_
         refine pu_ HT_ 13 (some 61) #[true, true, true, true, true, true, true, true, true, true, true, true, true, true, false, false] ?_
         refine pu_ HT_ 14 (some 62) #[true, true, true, true, true, true, true, true, true, true, true, true, true, true, true, false] ?_
         refine pu_ HT_ 15 (some 6) #[true, true, true, true, true, true, true, true, true, true, true, true, true, true, true, true] ?_
         refine done_ (done_of HT_.out (by kernel_rfl)) ?_
         try go_wp2
         go_roundg k1
         case measure => have := HK1.out; omega
         case rel => exact ⟨(t172), (wrap64 (Int.tdiv (rd y167 x7_1) (ji11))), (wrap64 (x7_1 + 1)), (by first | rfl | (simp; done) | (simp [*]; done) | (simp [wrap64]; done)), (by first | rfl | (simp; done) | (simp only [← hji11] <;> (first | rfl | simp)) | (simp [*]; done)), (by first | rfl | (simp; done) | (simp [*]; done) | (simp [wrap64]; done)), H', ⟨by have := HK1.out; omega⟩, ⟨by (with_reducible repeat (first | apply Kd.R_alloc | apply Kd.R_drewN | apply Kd.R_drew)); exact HO_4.out⟩, bl_ BK165, bl_ BK166, bw_ HB⟩
      ·rw [if_neg c13] at H
       have c13b0 : (x6_1 == 0) = false := beq_eq_false_iff_ne.mpr c13
       have c13b1 : (x6_1 != 0) = true := bne_iff_ne.mpr c13
       have H' := Aside0.mk H
       clear H
       try go_wp2
       replace HO_4 := Aside0.mk (Kd.R_drew HO_4.out)
       replace BK165 := Aside0.mk (blk_drew BK165.out)
       replace BK166 := Aside0.mk (blk_drew BK166.out)
       replace HB := Aside0.mk (below_drew1 HB.out)
       obtain ⟨Ao24, co24, eo24⟩ := Kd.R_slice HO_4.out
       (first | subst eo24 | (injection eo24 with f1_ f2_ f3_; have f4_ := f1_.symm; have f5_ := f3_.symm; clear f1_ f2_ f3_; subst f4_; subst f5_))
       have p170 : 0 ≤ (x7_1 : Int) := of_decide_eq_true (by first | (with_reducible assumption) | assumption)
       have q170 : x7_1 < (y167.length : Int) := of_decide_eq_true (by first | (with_reducible assumption) | assumption)
       obtain ⟨ad170, e170, hx170_0⟩ := Kd.at_int (Kd.R_reads' HO_4.out).2.2 x7_1 p170 q170
       cases e170
       replace p170 := eq_true p170
       replace q170 := eq_true q170
       have p171 : 0 ≤ (x7_1 : Int) := of_decide_eq_true (by first | (with_reducible assumption) | assumption)
       have q171 : x7_1 < (y167.length : Int) := of_decide_eq_true (by first | (with_reducible assumption) | assumption)
       obtain ⟨ad171, e171, hx171_0⟩ := Kd.at_int (Kd.R_reads' HO_4.out).2.2 x7_1 p171 q171
       obtain rfl : ad170 = ad171 := (by injection e171)
       replace p171 := eq_true p171
       replace q171 := eq_true q171
       refine start_ (n := 13) (S := fun w' => w'.cell? (ad170.add (x7_1).toNat) = some (.int .i64 (rd y167 x7_1)) ∧ w'.cell? (ad170.add (x7_1).toNat) = some (.int .i64 (rd y167 x7_1))) (ds := []) #[false, false, false, false, false, false, false, false, false, false, false, false, false] (by kernel_rfl) rfl rfl ⟨hx170_0, hx171_0⟩ (fun hHeld => ?_); refine with_tabW spec_l04Reduce.tab6 spec_l04Reduce.bits6 (fun HT_ HW_ => ?_)
       generalize wr.drew = w23 at HO_4 BK165 BK166 HB hx170_0 hx171_0 hHeld ⊢
       refine pu_ HT_ 0 (some 27) #[true, false, false, false, false, false, false, false, false, false, false, false, false] ?_
       refine pu_ HT_ 1 (some 28) #[true, true, false, false, false, false, false, false, false, false, false, false, false] ?_
       refine pu_ HT_ 2 (some 29) #[true, true, true, false, false, false, false, false, false, false, false, false, false] ?_
       refine pu_ HT_ 3 (some 30) #[true, true, true, true, false, false, false, false, false, false, false, false, false] ?_
       refine pu_ HT_ 5 (some 32) #[true, true, true, true, false, true, false, false, false, false, false, false, false] ?_
       refine pu_ HT_ 6 (some 33) #[true, true, true, true, false, true, true, false, false, false, false, false, false] ?_
       refine pu_ HT_ 7 (some 34) #[true, true, true, true, false, true, true, true, false, false, false, false, false] ?_
       refine ta_ HT_ HW_ 4 (some 31) #[true, true, true, true, true, true, true, true, false, false, false, false, false] hHeld ?_ (hy := by rintro w' ⟨s0, s1⟩; go_simp; with_reducible rfl)
       refine ta_ HT_ HW_ 8 (some 35) #[true, true, true, true, true, true, true, true, true, false, false, false, false] hHeld ?_ (hy := by rintro w' ⟨s0, s1⟩; go_simp; with_reducible rfl)
       refine pu_ HT_ 9 (some 36) #[true, true, true, true, true, true, true, true, true, true, false, false, false] ?_
       refine pu_ HT_ 10 (some 37) #[true, true, true, true, true, true, true, true, true, true, true, false, false] ?_
       refine one_ (i := 11) (N := some 38) #[true, true, true, true, true, true, true, true, true, true, true, true, false] rfl rfl (one_of HT_.out (by kernel_rfl)) (by decide) (fun K hK => ?_)
       refine goes_ Try.func102 (by kernel_rfl) rfl #[.int .i64 x5_1, .int .i64 ji11] (by rfl) rfl rfl (by (try simp only [List.map_toArray, List.map_cons, List.map_nil]); first | done | (simp only [hji11]; rfl) | rfl | (simp only [List.length_drop, List.length_take]; rfl)) ?_
       with_reducible refine (spec_l01Gcd.calls k1 x5_1 ji11 t172 _ A12.out).mono ?_
       rintro e w25 ⟨rfl, hb⟩
       have HS0_ := (hb.cell (World.block_lt_of_cell? _ _ (hHeld.1))).trans (hHeld.1)
       have HS1_ := (hb.cell (World.block_lt_of_cell? _ _ (hHeld.2))).trans (hHeld.2)
       refine ⟨_, rfl, ?_⟩
       replace HO_4 := Aside0.mk (Kd.R_below (by (with_reducible repeat (first | apply Kd.R_alloc | apply Kd.R_drewN | apply Kd.R_drew)); exact HO_4.out) hb)
       replace BK165 := bb_ BK165 hb
       replace BK166 := bb_ BK166 hb
       replace HB := bt_ HB hb
       (try clear hb)
       (try clear hb2)
       (try clear hk)
       (try clear hi)
       refine hK.out _ _ ⟨HS0_, HS1_⟩ (fun hHeld => ?_)
       clear hK K
       refine norm_ (a' := ?_) ?_ ?_
       rotate_left
       ·show Act.put _ (some 38) _ = _
        simp only [Act.put, lstS, lstZ, lstC, i64_w, i32_w]
        rfl
       refine pu_ HT_ 12 (some 5) #[true, true, true, true, true, true, true, true, true, true, true, true, true] ?_
       refine done_ (done_of HT_.out (by kernel_rfl)) ?_
       try go_wp2
       go_roundg k1
       case measure => have := HK1.out; omega
       case rel => exact ⟨(t172), (x6_1), (wrap64 (x7_1 + 1)), (by first | rfl | (simp; done) | (simp [*]; done) | (simp [wrap64]; done)), (by first | rfl | (simp; done) | (simp [*]; done) | (simp [wrap64]; done)), (by first | rfl | (simp; done) | (simp [*]; done) | (simp [wrap64]; done)), H', ⟨by have := HK1.out; omega⟩, ⟨by (with_reducible repeat (first | apply Kd.R_alloc | apply Kd.R_drewN | apply Kd.R_drew)); exact HO_4.out⟩, bl_ BK165, bl_ BK166, bw_ HB⟩
     ·rw [if_neg c10] at H
      exact absurd H (by simp)
    ·rw [if_neg c9] at H
     exact absurd H (by simp)
   ·rw [if_neg c8] at H
    have c8b0 : decide (x7_1 < 4) = false := decide_eq_false c8
    clear c8
    obtain ⟨ji26, hji26⟩ : ∃ j_ : Int, (mx x5_1 (wrap64 (-x5_1))) = j_ := ⟨_, rfl⟩
    replace H : (spec_l04Reduce.l1 k1 y167 ji26 x6_1 true 0) = some (r1, r2, r3, r4, r5) := by first | (rw [hji26] at H; exact H) | (simp only [hji26] at H ⊢; exact H)
    have hji26_k : (if x5_1 < (IntKind.i64.wrap (-x5_1)) then (IntKind.i64.wrap (-x5_1)) else x5_1) = ji26 := by simp only [i64_w]; exact hji26
    have hji26_ : (if x5_1 < (wrap64 (-x5_1)) then (wrap64 (-x5_1)) else x5_1) = ji26 := hji26
    have H' := Aside0.mk H
    clear H
    go_wp2
    go_loopg [8, 9] k1 (fun kq v8 v9 w' => ∃ (x4_2 : List Int) (x8_2 : Bool) (x9_2 : Int), v8 = .bool x8_2 ∧ v9 = .int .i64 x9_2 ∧ Aside0 (spec_l04Reduce.l1 kq x4_2 ji26 x6_1 x8_2 x9_2 = some (r1, r2, r3, r4, r5)) ∧ Aside0 (kq ≤ k1) ∧ Aside0 (Kd.R (Kd.int .i64) 2 w' w.heap.size (fun _ => True) v168 x4_2) ∧ Aside0 (w'.heap[gb165]? = some (.cells #[.int .i64 a0_0, .int .i64 a0_1, .int .i64 a0_2, .int .i64 a0_3] 33 (0, 0))) ∧ Aside0 (w'.heap[gb166]? = some (.cells #[.int .i64 0, .int .i64 0, .int .i64 0, .int .i64 0] 33 (0, 0))) ∧ Aside0 (Below w.heap.size w w'))
    case atStart => exact ⟨(y167), (true), (0), (by first | rfl | (simp; done) | (simp [*]; done) | (simp [wrap64]; done)), (by first | rfl | (simp; done) | (simp [*]; done) | (simp [wrap64]; done)), H', ⟨Nat.le_refl _⟩, ⟨by (with_reducible repeat (first | apply Kd.R_alloc | apply Kd.R_drewN | apply Kd.R_drew)); exact HO_4.out⟩, bl_ BK165, bl_ BK166, bw_ HB⟩
    case round =>
     clear H'
     try clear c1
     try clear p1
     try clear q1
     try clear hx1
     try clear p2
     try clear p6
     try clear c8
     try clear c8b0
     try clear c9
     try clear c10
     try clear c13
     try clear c13b0
     try clear c13b1
     try clear c14
     try clear c14b0
     try clear c14b1
     try clear p17
     try clear q17
     try clear hx17
     try clear c18
     try clear c18b0
     try clear c18b1
     try clear hx170_0
     try clear hx171_0
     try clear hx173_0
     try clear hx174_0
     try clear hx175_0
     try clear hx176_0
     try clear p170
     try clear p171
     try clear p173
     try clear p174
     try clear p175
     try clear p176
     try clear q170
     try clear q171
     try clear q173
     try clear q174
     try clear q175
     try clear q176
     obtain ⟨x4_2, x8_2, x9_2, rfl, rfl, HA, HK2, HO_4, BK165, BK166, HB⟩ := hrel
     cases gk with
     | zero => exact absurd HA.out (by simp [spec_l04Reduce.l1])
     | succ k2 =>
      have H := HA.out
      clear HA
      simp only [spec_l04Reduce.l1] at H
      by_cases c27 : x9_2 < 4
      ·rw [if_pos c27] at H
       have c27b0 : decide (x9_2 < 4) = true := decide_eq_true c27
       clear c27
       by_cases c28 : 0 ≤ x9_2
       ·rw [if_pos c28] at H
        have c28b0 : decide (0 ≤ x9_2) = true := decide_eq_true c28
        clear c28
        by_cases c29 : x9_2 < (x4_2.length : Int)
        ·rw [if_pos c29] at H
         have c29b0 : decide (x9_2 < (x4_2.length : Int)) = true := decide_eq_true c29
         clear c29
         by_cases c30 : ji26 = 0
         ·rw [if_pos c30] at H
          exact absurd H (by simp)
         ·rw [if_neg c30] at H
          have c30b0 : (ji26 == 0) = false := beq_eq_false_iff_ne.mpr c30
          have c30b1 : (ji26 != 0) = true := bne_iff_ne.mpr c30
          obtain ⟨y178, hy178⟩ : ∃ y_ : List Int, y_ = (x4_2.set (x9_2 : Int).toNat (wrap64 ((wrap64 (Int.tdiv (rd x4_2 x9_2) ji26)) * x6_1))) := ⟨_, rfl⟩
          replace H : (if x8_2 = true then ((spec_l01In.f (rd y178 x9_2) (-1000) 1000).bind fun t180 => (spec_l04Reduce.l1 k2 y178 ji26 x6_1 t180 (wrap64 (x9_2 + 1)))) else (spec_l04Reduce.l1 k2 y178 ji26 x6_1 false (wrap64 (x9_2 + 1)))) = some (r1, r2, r3, r4, r5) := by first | (rw [hy178]; with_reducible exact H) | (have H2_ := (Option.bind_some _ _).symm.trans H; rw [hy178]; with_reducible exact H2_) | (have H2_ := (Option.bind_some _ _).symm.trans H; with_reducible exact H2_) | with_reducible exact H | (rw [hy178]; exact H) | exact H
          have Ny178 := Aside0.mk hy178
          clear hy178
          by_cases c32 : x8_2 = true
          ·subst c32
           have H1 : ((spec_l01In.f (rd y178 x9_2) (-1000) 1000).bind fun t180 => (spec_l04Reduce.l1 k2 y178 ji26 x6_1 t180 (wrap64 (x9_2 + 1)))) = some (r1, r2, r3, r4, r5) := by rw [if_pos rfl] at H; exact H
           clear H
           have H := H1
           clear H1
           replace H := Option.bind_eq_some_iff.mp H
           obtain ⟨t180, A330, H⟩ := H
           have A33 := Aside0.mk A330
           clear A330
           have H' := Aside0.mk H
           clear H
           obtain ⟨Ao34, co34, eo34⟩ := Kd.R_slice HO_4.out
           subst eo34
           have p177 : 0 ≤ (x9_2 : Int) := of_decide_eq_true (by first | (with_reducible assumption) | assumption)
           have q177 : x9_2 < (x4_2.length : Int) := of_decide_eq_true (by first | (with_reducible assumption) | assumption)
           obtain ⟨ad177, e177, hx177_0⟩ := Kd.at_int (Kd.R_reads' HO_4.out).2.2 x9_2 p177 q177
           cases e177
           replace p177 := eq_true p177
           replace q177 := eq_true q177
           have p31 : 0 ≤ (x9_2 : Int) := of_decide_eq_true (by first | (with_reducible assumption) | assumption)
           have q31 : (x9_2 : Int) < ((x4_2.length : Int) : Int) := of_decide_eq_true (by first | (with_reducible assumption) | assumption)
           obtain ⟨go31, co31, eo31, gb31, gl31, cl31, HG31⟩ := Kd.R_form HO_4.out (by omega)
           (first | cases eo31 | (injection eo31 with ea_ en_ ec_; (first | subst ea_ | (injection ea_ with ea_; subst ea_)); subst ec_; clear en_))
           have GB31 := Aside0.mk gb31
           have GG31 := Aside0.mk HG31
           clear gb31 gl31 HG31
           (first | simp only [add_plain] at hx177_0 | skip)
           obtain ⟨hx31_0, hf31_0⟩ := Kd.R_celln 0 HO_4.out (x9_2 : Int) p31 q31
           replace p31 := eq_true p31
           replace q31 := eq_true q31
           have HP35 := Kd.R_putg HO_4.out (x9_2 : Int) (wrap64 ((wrap64 (Int.tdiv (rd x4_2 x9_2) ji26)) * x6_1))
           go_wp2_with (first | ((with_reducible refine gate_store (t := 2) (p := 81) rfl ?_); refine store_event (t := 2) (p := 81) (v := ?vo_w36) (w1 := (wr.setCell ⟨go31, (x9_2 : Int).toNat, none⟩ (.int .i64 (wrap64 ((wrap64 (Int.tdiv (rd x4_2 x9_2) ji26)) * x6_1))))) ?hg ?ho ?hn ?hr ?_; (case ho => rfl); (case hg => rfl); (case hn => rfl); (case hr => first | (go_simp; done) | (go_simp; rfl)); intro w36 hw; have hg : wr.grownBy w36 (some go31) := (by rw [hw]; exact HP35.2); have hp_ : Kd.R (Kd.int .i64) 2 w36 w.heap.size (fun _ => True) (.slice (some ⟨go31, 0, none⟩) x4_2.length co34) y178 := (by rw [hw, Ny178.out]; exact HP35.1); clear HP35; replace BK165 := Aside0.mk (blk_grown (g := gb165) (o := .cells #[.int .i64 a0_0, .int .i64 a0_1, .int .i64 a0_2, .int .i64 a0_3] 33 (0, 0)) (bl_ BK165).out hg (Kd.R_ne HO_4.out BK165.out (by decide))); replace BK166 := Aside0.mk (blk_grown (g := gb166) (o := .cells #[.int .i64 0, .int .i64 0, .int .i64 0, .int .i64 0] 33 (0, 0)) (bl_ BK166).out hg (Kd.R_ne HO_4.out BK166.out (by decide))); replace HO_4 := Aside0.mk (hp_); replace HB := Aside0.mk ((by rw [hw]; exact below_set (HB.out) GB31.out : Below w.heap.size w w36)); clear hg hw hp_; have p179 : 0 ≤ (x9_2 : Int) := of_decide_eq_true (by first | (with_reducible assumption) | assumption); have q179 : x9_2 < (y178.length : Int) := (by have h_ : (x9_2 : Int) < ((x4_2.length : Int) : Int) := of_decide_eq_true (by first | (with_reducible assumption) | assumption); first | (have e_ := (Kd.R_reads' HO_4.out).1; omega) | simpa only [Ny178.out, List.length_set] using h_); have ql179 : ((x9_2 : Int) < ((x4_2.length : Int) : Int)) = True := eq_true (of_decide_eq_true (by first | (with_reducible assumption) | assumption)); obtain ⟨ad179, e179, hx179_0⟩ := Kd.at_int (Kd.R_reads' HO_4.out).2.2 x9_2 p179 q179; obtain rfl : (⟨go31, 0, none⟩ : Addr) = ad179 := (by injection e179); (first | simp only [add_plain] at hx179_0 | simp only [add_at] at hx179_0 | simp only [Addr.add, Nat.zero_add] at hx179_0 | skip); replace p179 := eq_true p179; replace q179 := eq_true q179) | (go_at_call 70; (with_reducible refine (spec_l01In.calls (rd y178 x9_2) (-1000) 1000 t180 _ A33.out).mono ?_); rintro e w' ⟨rfl, ⟨nd, rfl⟩⟩))
           go_roundg k2
           case measure => have := HK1.out; have := HK2.out; omega
           case rel => exact ⟨(y178), (t180), (wrap64 (x9_2 + 1)), (by first | rfl | (simp; done) | (simp [*]; done) | (simp [wrap64]; done)), (by first | rfl | (simp; done) | (simp [*]; done) | (simp [wrap64]; done)), H', ⟨by have := HK1.out; have := HK2.out; omega⟩, ⟨by (with_reducible repeat (first | apply Kd.R_alloc | apply Kd.R_drewN | apply Kd.R_drew)); exact HO_4.out⟩, bl_ BK165, bl_ BK166, bw_ HB⟩
          ·replace c32 := Bool.eq_false_iff.mpr c32
           subst c32
           have H1 : (spec_l04Reduce.l1 k2 y178 ji26 x6_1 false (wrap64 (x9_2 + 1))) = some (r1, r2, r3, r4, r5) := by rw [if_neg (show ¬ (false = true) by decide)] at H; exact H
           clear H
           have H := H1
           clear H1
           have H' := Aside0.mk H
           clear H
           obtain ⟨Ao37, co37, eo37⟩ := Kd.R_slice HO_4.out
           subst eo37
           have p177 : 0 ≤ (x9_2 : Int) := of_decide_eq_true (by first | (with_reducible assumption) | assumption)
           have q177 : x9_2 < (x4_2.length : Int) := of_decide_eq_true (by first | (with_reducible assumption) | assumption)
           obtain ⟨ad177, e177, hx177_0⟩ := Kd.at_int (Kd.R_reads' HO_4.out).2.2 x9_2 p177 q177
           cases e177
           replace p177 := eq_true p177
           replace q177 := eq_true q177
           have p31 : 0 ≤ (x9_2 : Int) := of_decide_eq_true (by first | (with_reducible assumption) | assumption)
           have q31 : (x9_2 : Int) < ((x4_2.length : Int) : Int) := of_decide_eq_true (by first | (with_reducible assumption) | assumption)
           obtain ⟨go31, co31, eo31, gb31, gl31, cl31, HG31⟩ := Kd.R_form HO_4.out (by omega)
           (first | cases eo31 | (injection eo31 with ea_ en_ ec_; (first | subst ea_ | (injection ea_ with ea_; subst ea_)); subst ec_; clear en_))
           have GB31 := Aside0.mk gb31
           have GG31 := Aside0.mk HG31
           clear gb31 gl31 HG31
           (first | simp only [add_plain] at hx177_0 | skip)
           obtain ⟨hx31_0, hf31_0⟩ := Kd.R_celln 0 HO_4.out (x9_2 : Int) p31 q31
           replace p31 := eq_true p31
           replace q31 := eq_true q31
           have HP38 := Kd.R_putg HO_4.out (x9_2 : Int) (wrap64 ((wrap64 (Int.tdiv (rd x4_2 x9_2) ji26)) * x6_1))
           go_wp2_with (first | ((with_reducible refine gate_store (t := 2) (p := 81) rfl ?_); refine store_event (t := 2) (p := 81) (v := ?vo_w39) (w1 := (wr.setCell ⟨go31, (x9_2 : Int).toNat, none⟩ (.int .i64 (wrap64 ((wrap64 (Int.tdiv (rd x4_2 x9_2) ji26)) * x6_1))))) ?hg ?ho ?hn ?hr ?_; (case ho => rfl); (case hg => rfl); (case hn => rfl); (case hr => first | (go_simp; done) | (go_simp; rfl)); intro w39 hw; have hg : wr.grownBy w39 (some go31) := (by rw [hw]; exact HP38.2); have hp_ : Kd.R (Kd.int .i64) 2 w39 w.heap.size (fun _ => True) (.slice (some ⟨go31, 0, none⟩) x4_2.length co37) y178 := (by rw [hw, Ny178.out]; exact HP38.1); clear HP38; replace BK165 := Aside0.mk (blk_grown (g := gb165) (o := .cells #[.int .i64 a0_0, .int .i64 a0_1, .int .i64 a0_2, .int .i64 a0_3] 33 (0, 0)) (bl_ BK165).out hg (Kd.R_ne HO_4.out BK165.out (by decide))); replace BK166 := Aside0.mk (blk_grown (g := gb166) (o := .cells #[.int .i64 0, .int .i64 0, .int .i64 0, .int .i64 0] 33 (0, 0)) (bl_ BK166).out hg (Kd.R_ne HO_4.out BK166.out (by decide))); replace HO_4 := Aside0.mk (hp_); replace HB := Aside0.mk ((by rw [hw]; exact below_set (HB.out) GB31.out : Below w.heap.size w w39)); clear hg hw hp_))
           go_roundg k2
           case measure => have := HK1.out; have := HK2.out; omega
           case rel => exact ⟨(y178), (false), (wrap64 (x9_2 + 1)), (by first | rfl | (simp; done) | (simp [*]; done) | (simp [wrap64]; done)), (by first | rfl | (simp; done) | (simp [*]; done) | (simp [wrap64]; done)), H', ⟨by have := HK1.out; have := HK2.out; omega⟩, ⟨by (with_reducible repeat (first | apply Kd.R_alloc | apply Kd.R_drewN | apply Kd.R_drew)); exact HO_4.out⟩, bl_ BK165, bl_ BK166, bw_ HB⟩
        ·rw [if_neg c29] at H
         exact absurd H (by simp)
       ·rw [if_neg c28] at H
        exact absurd H (by simp)
      ·rw [if_neg c27] at H
       have c27b0 : decide (x9_2 < 4) = false := decide_eq_false c27
       clear c27
       by_cases c40 : 0 < (x4_2.length : Int)
       ·rw [if_pos c40] at H
        have c40b0 : decide (0 < (x4_2.length : Int)) = true := decide_eq_true c40
        have c40b1 : decide (0 < x4_2.length) = true := decide_eq_true (by omega)
        clear c40
        by_cases c41 : 1 < (x4_2.length : Int)
        ·rw [if_pos c41] at H
         have c41b0 : decide (1 < (x4_2.length : Int)) = true := decide_eq_true c41
         have c41b1 : decide (1 < x4_2.length) = true := decide_eq_true (by omega)
         clear c41
         by_cases c42 : 2 < (x4_2.length : Int)
         ·rw [if_pos c42] at H
          have c42b0 : decide (2 < (x4_2.length : Int)) = true := decide_eq_true c42
          have c42b1 : decide (2 < x4_2.length) = true := decide_eq_true (by omega)
          clear c42
          by_cases c43 : 3 < (x4_2.length : Int)
          ·rw [if_pos c43] at H
           have c43b0 : decide (3 < (x4_2.length : Int)) = true := decide_eq_true c43
           have c43b1 : decide (3 < x4_2.length) = true := decide_eq_true (by omega)
           clear c43
           simp only [Option.some.injEq, Prod.mk.injEq] at H
           obtain ⟨rfl, rfl, rfl, rfl, rfl⟩ := H
           try go_wp2
           replace HO_4 := Aside0.mk (Kd.R_drew HO_4.out)
           replace BK165 := Aside0.mk (blk_drew BK165.out)
           replace BK166 := Aside0.mk (blk_drew BK166.out)
           replace HB := Aside0.mk (below_drew1 HB.out)
           obtain ⟨Ao45, co45, eo45⟩ := Kd.R_slice HO_4.out
           (first | subst eo45 | (injection eo45 with f1_ f2_ f3_; have f4_ := f1_.symm; have f5_ := f3_.symm; clear f1_ f2_ f3_; subst f4_; subst f5_))
           have p181 : 0 ≤ (0 : Int) := (by omega)
           have q181 : 0 < (x4_2.length : Int) := of_decide_eq_true (by first | (with_reducible assumption) | assumption)
           obtain ⟨ad181, e181, hx181_0⟩ := Kd.at_int (Kd.R_reads' HO_4.out).2.2 0 p181 q181
           cases e181
           have qi181 : (0 < x4_2.length) = True := eq_true (by omega)
           (try rw [show ((0 : Int)).toNat = 0 from rfl] at hx181_0)
           (try rw [Addr.add_zero'] at hx181_0)
           replace p181 := eq_true p181
           replace q181 := eq_true q181
           have p182 : 0 ≤ (1 : Int) := (by omega)
           have q182 : 1 < (x4_2.length : Int) := of_decide_eq_true (by first | (with_reducible assumption) | assumption)
           obtain ⟨ad182, e182, hx182_0⟩ := Kd.at_int (Kd.R_reads' HO_4.out).2.2 1 p182 q182
           obtain rfl : ad181 = ad182 := (by injection e182)
           (try simp only [show (1 : Int).toNat = 1 from rfl, Nat.reduceMul, Nat.reduceEqDiff, Go.Addr.add, ↓reduceIte] at hx182_0)
           have qi182 : (1 < x4_2.length) = True := eq_true (by omega)
           (try rw [show ((1 : Int)).toNat = 1 from rfl] at hx182_0)
           replace p182 := eq_true p182
           replace q182 := eq_true q182
           have p183 : 0 ≤ (2 : Int) := (by omega)
           have q183 : 2 < (x4_2.length : Int) := of_decide_eq_true (by first | (with_reducible assumption) | assumption)
           obtain ⟨ad183, e183, hx183_0⟩ := Kd.at_int (Kd.R_reads' HO_4.out).2.2 2 p183 q183
           obtain rfl : ad181 = ad183 := (by injection e183)
           (try simp only [show (2 : Int).toNat = 2 from rfl, Nat.reduceMul, Nat.reduceEqDiff, Go.Addr.add, ↓reduceIte] at hx183_0)
           have qi183 : (2 < x4_2.length) = True := eq_true (by omega)
           (try rw [show ((2 : Int)).toNat = 2 from rfl] at hx183_0)
           replace p183 := eq_true p183
           replace q183 := eq_true q183
           have p184 : 0 ≤ (3 : Int) := (by omega)
           have q184 : 3 < (x4_2.length : Int) := of_decide_eq_true (by first | (with_reducible assumption) | assumption)
           obtain ⟨ad184, e184, hx184_0⟩ := Kd.at_int (Kd.R_reads' HO_4.out).2.2 3 p184 q184
           obtain rfl : ad181 = ad184 := (by injection e184)
           (try simp only [show (3 : Int).toNat = 3 from rfl, Nat.reduceMul, Nat.reduceEqDiff, Go.Addr.add, ↓reduceIte] at hx184_0)
           have qi184 : (3 < x4_2.length) = True := eq_true (by omega)
           (try rw [show ((3 : Int)).toNat = 3 from rfl] at hx184_0)
           replace p184 := eq_true p184
           replace q184 := eq_true q184
           refine start_ (n := 18) (S := fun w' => w'.cell? ad181 = some (.int .i64 (rd x4_2 0)) ∧ w'.cell? ⟨ad181.block, ad181.off + 1, none⟩ = some (.int .i64 (rd x4_2 1)) ∧ w'.cell? ⟨ad181.block, ad181.off + 2, none⟩ = some (.int .i64 (rd x4_2 2)) ∧ w'.cell? ⟨ad181.block, ad181.off + 3, none⟩ = some (.int .i64 (rd x4_2 3))) (ds := []) #[false, false, false, false, false, false, false, false, false, false, false, false, false, false, false, false, false, false] (by kernel_rfl) rfl rfl ⟨hx181_0, hx182_0, hx183_0, hx184_0⟩ (fun hHeld => ?_); refine with_tabW spec_l04Reduce.tab16 spec_l04Reduce.bits16 (fun HT_ HW_ => ?_)
           generalize wr.drew = w44 at HO_4 BK165 BK166 HB hx181_0 hx182_0 hx183_0 hx184_0 hHeld ⊢
           refine pu_ HT_ 0 (some 90) #[true, false, false, false, false, false, false, false, false, false, false, false, false, false, false, false, false, false] ?_
           refine pu_ HT_ 1 (some 91) #[true, true, false, false, false, false, false, false, false, false, false, false, false, false, false, false, false, false] ?_
           refine pu_ HT_ 3 (some 93) #[true, true, false, true, false, false, false, false, false, false, false, false, false, false, false, false, false, false] ?_
           refine pu_ HT_ 4 (some 94) #[true, true, false, true, true, false, false, false, false, false, false, false, false, false, false, false, false, false] ?_
           refine pu_ HT_ 7 (some 97) #[true, true, false, true, true, false, false, true, false, false, false, false, false, false, false, false, false, false] ?_
           refine pu_ HT_ 8 (some 98) #[true, true, false, true, true, false, false, true, true, false, false, false, false, false, false, false, false, false] ?_
           refine pu_ HT_ 10 (some 100) #[true, true, false, true, true, false, false, true, true, false, true, false, false, false, false, false, false, false] ?_
           refine pu_ HT_ 11 (some 101) #[true, true, false, true, true, false, false, true, true, false, true, true, false, false, false, false, false, false] ?_
           refine pu_ HT_ 15 (some 105) #[true, true, false, true, true, false, false, true, true, false, true, true, false, false, false, true, false, false] ?_
           refine ta_ HT_ HW_ 2 (some 92) #[true, true, true, true, true, false, false, true, true, false, true, true, false, false, false, true, false, false] hHeld ?_ (hy := by rintro w' ⟨s0, s1, s2, s3⟩; go_simp; with_reducible rfl)
           refine ta_ HT_ HW_ 5 (some 95) #[true, true, true, true, true, true, false, true, true, false, true, true, false, false, false, true, false, false] hHeld ?_ (hy := by rintro w' ⟨s0, s1, s2, s3⟩; go_simp; with_reducible rfl)
           refine pu_ HT_ 6 (some 96) #[true, true, true, true, true, true, true, true, true, false, true, true, false, false, false, true, false, false] ?_
           refine ta_ HT_ HW_ 9 (some 99) #[true, true, true, true, true, true, true, true, true, true, true, true, false, false, false, true, false, false] hHeld ?_ (hy := by rintro w' ⟨s0, s1, s2, s3⟩; go_simp; with_reducible rfl)
           refine ta_ HT_ HW_ 12 (some 102) #[true, true, true, true, true, true, true, true, true, true, true, true, true, false, false, true, false, false] hHeld ?_ (hy := by rintro w' ⟨s0, s1, s2, s3⟩; go_simp; with_reducible rfl)
           refine pu_ HT_ 13 (some 103) #[true, true, true, true, true, true, true, true, true, true, true, true, true, true, false, true, false, false] ?_
           refine pu_ HT_ 14 (some 104) #[true, true, true, true, true, true, true, true, true, true, true, true, true, true, true, true, false, false] ?_
           refine one_ (i := 16) (N := none) #[true, true, true, true, true, true, true, true, true, true, true, true, true, true, true, true, true, false] rfl rfl (one_of HT_.out (by kernel_rfl)) (by decide) (fun K hK => ?_)
           have hs46 : w44.cell? ⟨gb166, 0, none⟩ = some (.int .i64 0) := (blk_cell BK166.out 0).trans rfl
           have hfs46 := blk_frozen BK166.out 0
           have hns46_0 := NB165_166.out
           have hms46_0 := NB166_165.out
           have hs47 : w44.cell? ⟨gb166, 1, none⟩ = some (.int .i64 0) := (blk_cell BK166.out 1).trans rfl
           have hfs47 := blk_frozen BK166.out 1
           have hns47_0 := NB165_166.out
           have hms47_0 := NB166_165.out
           have hs48 : w44.cell? ⟨gb166, 2, none⟩ = some (.int .i64 0) := (blk_cell BK166.out 2).trans rfl
           have hfs48 := blk_frozen BK166.out 2
           have hns48_0 := NB165_166.out
           have hms48_0 := NB166_165.out
           have hs49 : w44.cell? ⟨gb166, 3, none⟩ = some (.int .i64 0) := (blk_cell BK166.out 3).trans rfl
           have hfs49 := blk_frozen BK166.out 3
           have hns49_0 := NB165_166.out
           have hms49_0 := NB166_165.out
           refine skip_ (w1 := ?_) (by rfl) rfl ?_ ?_
           rotate_left
           ·go_simp
            rfl
           refine hK.out _ _ ⟨((cell_far (p := ⟨gb166, _, none⟩) (by first | exact Kd.own_blk (Kd.R_ne HO_4.out BK166.out (by decide)) | (rw [add_block]; exact Kd.own_blk (Kd.R_ne HO_4.out BK166.out (by decide))) | (show (Addr.add _ _).block ≠ _; rw [add_block]; exact Kd.own_blk (Kd.R_ne HO_4.out BK166.out (by decide))) | (dsimp only; exact Kd.own_blk (Kd.R_ne HO_4.out BK166.out (by decide)))) _).trans (((cell_far (p := ⟨gb166, _, none⟩) (by first | exact Kd.own_blk (Kd.R_ne HO_4.out BK166.out (by decide)) | (rw [add_block]; exact Kd.own_blk (Kd.R_ne HO_4.out BK166.out (by decide))) | (show (Addr.add _ _).block ≠ _; rw [add_block]; exact Kd.own_blk (Kd.R_ne HO_4.out BK166.out (by decide))) | (dsimp only; exact Kd.own_blk (Kd.R_ne HO_4.out BK166.out (by decide)))) _).trans (((cell_far (p := ⟨gb166, _, none⟩) (by first | exact Kd.own_blk (Kd.R_ne HO_4.out BK166.out (by decide)) | (rw [add_block]; exact Kd.own_blk (Kd.R_ne HO_4.out BK166.out (by decide))) | (show (Addr.add _ _).block ≠ _; rw [add_block]; exact Kd.own_blk (Kd.R_ne HO_4.out BK166.out (by decide))) | (dsimp only; exact Kd.own_blk (Kd.R_ne HO_4.out BK166.out (by decide)))) _).trans (((cell_far (p := ⟨gb166, _, none⟩) (by first | exact Kd.own_blk (Kd.R_ne HO_4.out BK166.out (by decide)) | (rw [add_block]; exact Kd.own_blk (Kd.R_ne HO_4.out BK166.out (by decide))) | (show (Addr.add _ _).block ≠ _; rw [add_block]; exact Kd.own_blk (Kd.R_ne HO_4.out BK166.out (by decide))) | (dsimp only; exact Kd.own_blk (Kd.R_ne HO_4.out BK166.out (by decide)))) _).trans (hHeld.1)))))))), ((cell_far (p := ⟨gb166, _, none⟩) (by first | exact Kd.own_blk (Kd.R_ne HO_4.out BK166.out (by decide)) | (rw [add_block]; exact Kd.own_blk (Kd.R_ne HO_4.out BK166.out (by decide))) | (show (Addr.add _ _).block ≠ _; rw [add_block]; exact Kd.own_blk (Kd.R_ne HO_4.out BK166.out (by decide))) | (dsimp only; exact Kd.own_blk (Kd.R_ne HO_4.out BK166.out (by decide)))) _).trans (((cell_far (p := ⟨gb166, _, none⟩) (by first | exact Kd.own_blk (Kd.R_ne HO_4.out BK166.out (by decide)) | (rw [add_block]; exact Kd.own_blk (Kd.R_ne HO_4.out BK166.out (by decide))) | (show (Addr.add _ _).block ≠ _; rw [add_block]; exact Kd.own_blk (Kd.R_ne HO_4.out BK166.out (by decide))) | (dsimp only; exact Kd.own_blk (Kd.R_ne HO_4.out BK166.out (by decide)))) _).trans (((cell_far (p := ⟨gb166, _, none⟩) (by first | exact Kd.own_blk (Kd.R_ne HO_4.out BK166.out (by decide)) | (rw [add_block]; exact Kd.own_blk (Kd.R_ne HO_4.out BK166.out (by decide))) | (show (Addr.add _ _).block ≠ _; rw [add_block]; exact Kd.own_blk (Kd.R_ne HO_4.out BK166.out (by decide))) | (dsimp only; exact Kd.own_blk (Kd.R_ne HO_4.out BK166.out (by decide)))) _).trans (((cell_far (p := ⟨gb166, _, none⟩) (by first | exact Kd.own_blk (Kd.R_ne HO_4.out BK166.out (by decide)) | (rw [add_block]; exact Kd.own_blk (Kd.R_ne HO_4.out BK166.out (by decide))) | (show (Addr.add _ _).block ≠ _; rw [add_block]; exact Kd.own_blk (Kd.R_ne HO_4.out BK166.out (by decide))) | (dsimp only; exact Kd.own_blk (Kd.R_ne HO_4.out BK166.out (by decide)))) _).trans (hHeld.2.1)))))))), ((cell_far (p := ⟨gb166, _, none⟩) (by first | exact Kd.own_blk (Kd.R_ne HO_4.out BK166.out (by decide)) | (rw [add_block]; exact Kd.own_blk (Kd.R_ne HO_4.out BK166.out (by decide))) | (show (Addr.add _ _).block ≠ _; rw [add_block]; exact Kd.own_blk (Kd.R_ne HO_4.out BK166.out (by decide))) | (dsimp only; exact Kd.own_blk (Kd.R_ne HO_4.out BK166.out (by decide)))) _).trans (((cell_far (p := ⟨gb166, _, none⟩) (by first | exact Kd.own_blk (Kd.R_ne HO_4.out BK166.out (by decide)) | (rw [add_block]; exact Kd.own_blk (Kd.R_ne HO_4.out BK166.out (by decide))) | (show (Addr.add _ _).block ≠ _; rw [add_block]; exact Kd.own_blk (Kd.R_ne HO_4.out BK166.out (by decide))) | (dsimp only; exact Kd.own_blk (Kd.R_ne HO_4.out BK166.out (by decide)))) _).trans (((cell_far (p := ⟨gb166, _, none⟩) (by first | exact Kd.own_blk (Kd.R_ne HO_4.out BK166.out (by decide)) | (rw [add_block]; exact Kd.own_blk (Kd.R_ne HO_4.out BK166.out (by decide))) | (show (Addr.add _ _).block ≠ _; rw [add_block]; exact Kd.own_blk (Kd.R_ne HO_4.out BK166.out (by decide))) | (dsimp only; exact Kd.own_blk (Kd.R_ne HO_4.out BK166.out (by decide)))) _).trans (((cell_far (p := ⟨gb166, _, none⟩) (by first | exact Kd.own_blk (Kd.R_ne HO_4.out BK166.out (by decide)) | (rw [add_block]; exact Kd.own_blk (Kd.R_ne HO_4.out BK166.out (by decide))) | (show (Addr.add _ _).block ≠ _; rw [add_block]; exact Kd.own_blk (Kd.R_ne HO_4.out BK166.out (by decide))) | (dsimp only; exact Kd.own_blk (Kd.R_ne HO_4.out BK166.out (by decide)))) _).trans (hHeld.2.2.1)))))))), ((cell_far (p := ⟨gb166, _, none⟩) (by first | exact Kd.own_blk (Kd.R_ne HO_4.out BK166.out (by decide)) | (rw [add_block]; exact Kd.own_blk (Kd.R_ne HO_4.out BK166.out (by decide))) | (show (Addr.add _ _).block ≠ _; rw [add_block]; exact Kd.own_blk (Kd.R_ne HO_4.out BK166.out (by decide))) | (dsimp only; exact Kd.own_blk (Kd.R_ne HO_4.out BK166.out (by decide)))) _).trans (((cell_far (p := ⟨gb166, _, none⟩) (by first | exact Kd.own_blk (Kd.R_ne HO_4.out BK166.out (by decide)) | (rw [add_block]; exact Kd.own_blk (Kd.R_ne HO_4.out BK166.out (by decide))) | (show (Addr.add _ _).block ≠ _; rw [add_block]; exact Kd.own_blk (Kd.R_ne HO_4.out BK166.out (by decide))) | (dsimp only; exact Kd.own_blk (Kd.R_ne HO_4.out BK166.out (by decide)))) _).trans (((cell_far (p := ⟨gb166, _, none⟩) (by first | exact Kd.own_blk (Kd.R_ne HO_4.out BK166.out (by decide)) | (rw [add_block]; exact Kd.own_blk (Kd.R_ne HO_4.out BK166.out (by decide))) | (show (Addr.add _ _).block ≠ _; rw [add_block]; exact Kd.own_blk (Kd.R_ne HO_4.out BK166.out (by decide))) | (dsimp only; exact Kd.own_blk (Kd.R_ne HO_4.out BK166.out (by decide)))) _).trans (((cell_far (p := ⟨gb166, _, none⟩) (by first | exact Kd.own_blk (Kd.R_ne HO_4.out BK166.out (by decide)) | (rw [add_block]; exact Kd.own_blk (Kd.R_ne HO_4.out BK166.out (by decide))) | (show (Addr.add _ _).block ≠ _; rw [add_block]; exact Kd.own_blk (Kd.R_ne HO_4.out BK166.out (by decide))) | (dsimp only; exact Kd.own_blk (Kd.R_ne HO_4.out BK166.out (by decide)))) _).trans (hHeld.2.2.2))))))))⟩ (fun hHeld => ?_)
           clear hK K
           refine pu_ HT_ 17 (some 3) #[true, true, true, true, true, true, true, true, true, true, true, true, true, true, true, true, true, true] ?_
           refine done_ (done_of HT_.out (by kernel_rfl)) ?_
           try go_wp2
           refine bodyPost_ret (results_ct rfl _ _ gb166 33 #[.int .i64 (rd x4_2 0), .int .i64 (rd x4_2 1), .int .i64 (rd x4_2 2), .int .i64 (rd x4_2 3)] (0, 0) _ rfl (by (with_reducible repeat first | apply blk_drewN | apply blk_drew | apply blk_alloc); refine blk_put (cs := #[.int .i64 (rd x4_2 0), .int .i64 (rd x4_2 1), .int .i64 (rd x4_2 2), .int .i64 0]) ?_ 3 _ rfl; (with_reducible repeat first | apply blk_drewN | apply blk_drew | apply blk_alloc); refine blk_put (cs := #[.int .i64 (rd x4_2 0), .int .i64 (rd x4_2 1), .int .i64 0, .int .i64 0]) ?_ 2 _ rfl; (with_reducible repeat first | apply blk_drewN | apply blk_drew | apply blk_alloc); refine blk_put (cs := #[.int .i64 (rd x4_2 0), .int .i64 0, .int .i64 0, .int .i64 0]) ?_ 1 _ rfl; (with_reducible repeat first | apply blk_drewN | apply blk_drew | apply blk_alloc); refine blk_put (cs := #[.int .i64 0, .int .i64 0, .int .i64 0, .int .i64 0]) ?_ 0 _ rfl; (with_reducible repeat first | apply blk_drewN | apply blk_drew | apply blk_alloc); exact BK166.out) Try.underlying33 rfl (by kernel_rfl)) rfl ?_
           exact ⟨by first | rfl | (simp [errW_none, errW_some] <;> rfl) | (simp only [← hji26]; first | rfl | (simp [errW_none, errW_some] <;> rfl)) | (simp [*, errW_none, errW_some] <;> rfl), by repeat (first | (with_reducible first | exact HB.out | apply below_alloc | apply pw_below_drewN | apply below_drew1 | refine below_set ?_ GE165.out | refine below_set ?_ GE166.out) | exact HB.out)⟩
          ·rw [if_neg c43] at H
           exact absurd H (by simp)
         ·rw [if_neg c42] at H
          exact absurd H (by simp)
        ·rw [if_neg c41] at H
         exact absurd H (by simp)
       ·rw [if_neg c40] at H
        exact absurd H (by simp)
end Go.Proofs.Ytojpcbbmbnmchaa.QC
