-- Written by a program of this session out of Lean's own print of the loaded program; Lean checks it.
import Derived.Test.YtojpcbbmbnmchaaQCx4
import Derived.Test.YtojpcbbmbnmchaaQCx68
import Derived.Test.YtojpcbbmbnmchaaQCx71
import Derived.Test.YtojpcbbmbnmchaaQCx31
import Derived.Test.YtojpcbbmbnmchaaQCx47
import Derived.Test.YtojpcbbmbnmchaaQCx50
namespace Go.Proofs.Ytojpcbbmbnmchaa.QC
open Go.RowKit Go.Proofs.YtojpcbbmbnmchaaW.PrintWords Go.Proofs.YtojpcbbmbnmchaaW.PrintLast Go.Proofs.YtojpcbbmbnmchaaW.PrintMore
attribute [local go_sem] isSome_setCell max2_int min2_int max_two min_two max_three min_three max_four min_four   -- for this text's walks alone
set_option linter.unusedVariables false
set_option linter.unusedSimpArgs false

/-! ### impl_wayWord: function 55 -/
def impl_wayWord.l0 : Nat → Int → List Int → List (S28) → Int → Option (ByteArray)
 | 0, _, _, _, _ => none
 | k + 1, x0, x7, x8, x9 => if x9 < (x8.length : Int) then (if 0 ≤ (wrap64 (x9 - 1)) then (if (wrap64 (x9 - 1)) < (x8.length : Int) then (if 0 ≤ x9 then ((impl_letterTo.f k x0 ((rd_T28 x8 (wrap64 (x9 - 1))).f0) ((rd_T28 x8 (wrap64 (x9 - 1))).f1) ((rd_T28 x8 (wrap64 (x9 - 1))).f2) ((rd_T28 x8 x9).f0) ((rd_T28 x8 x9).f1) ((rd_T28 x8 x9).f2)).bind fun t551 => (if x7.length < 140737488355328 then (impl_wayWord.l0 k x0 (x7 ++ [t551]) x8 (wrap64 (x9 + 1))) else (none))) else (none)) else (none)) else (none)) else (some (strOfNums x7))
def impl_wayWord.f (k : Nat) (a0 : Int) (a1_0 : Int) (a1_1 : Int) (a1_2 : Int) (a2_0 : Int) (a2_1 : Int) (a2_2 : Int) : Option (ByteArray) := (impl_geodesic.f k a0 a1_0 a1_1 a1_2 a2_0 a2_1 a2_2).bind fun t546 => (impl_wayWord.l0 k a0 (([] : List Int)) t546 1)
def impl_wayWord.T5 : Bool × List (List Nat × List Nat) := (true, [([], []), ([], []), ([], []), ([], []), ([3], [3]), ([2, 4], [2, 4]), ([5], [5]), ([], []), ([], []), ([7, 8], [7, 8]), ([9], [9]), ([1, 6, 10], [1, 6, 10]), ([11], [11]), ([0, 12, 11], [0, 12]), ([13, 13, 0, 1, 2, 3, 4, 5, 6, 7, 8, 9, 10, 11, 12, 13], [0, 13])])
def impl_wayWord.B5 : List Nat := [0, 0, 0, 0, 8, 28, 60, 0, 0, 384, 896, 2046, 4094, 8191, 16383]
theorem impl_wayWord.tab5 : rtab .any (opsOf Try.f55 5) = impl_wayWord.T5 := by kernel_rfl
theorem impl_wayWord.bits5 : waitsOk impl_wayWord.T5.2 impl_wayWord.B5 = true := by kernel_rfl
set_option maxHeartbeats 8000000 in
set_option maxRecDepth 100000 in
theorem impl_wayWord.calls (k : Nat) (a0 : Int) (a1_0 : Int) (a1_1 : Int) (a1_2 : Int) (a2_0 : Int) (a2_1 : Int) (a2_2 : Int) (r : ByteArray) (w : World) (h : impl_wayWord.f k a0 a1_0 a1_1 a1_2 a2_0 a2_1 a2_2 = some r) :
  Calls Try.prog 55 #[.int .i64 a0, .agg #[.int .i64 a1_0, .int .i64 a1_1, .int .i64 a1_2], .agg #[.int .i64 a2_0, .int .i64 a2_1, .int .i64 a2_2]] w fun e w' => e = .returned (.string r) ∧ Below w.heap.size w w' := by
 have hu28 := Try.underlying28
 have HB := Aside0.mk (Below.refl w.heap.size w)
 have H : ((impl_geodesic.f k a0 a1_0 a1_1 a1_2 a2_0 a2_1 a2_2).bind fun t546 => (impl_wayWord.l0 k a0 (([] : List Int)) t546 1)) = some r := h
 clear h
 obtain ⟨y543, hy543⟩ : ∃ y_ : List Int, y_ = (([] : List Int)) := ⟨_, rfl⟩
 replace H : ((impl_geodesic.f k a0 a1_0 a1_1 a1_2 a2_0 a2_1 a2_2).bind fun t546 => (impl_wayWord.l0 k a0 y543 t546 1)) = some r := by first | (rw [hy543]; with_reducible exact H) | (have H2_ := (Option.bind_some _ _).symm.trans H; rw [hy543]; with_reducible exact H2_) | (have H2_ := (Option.bind_some _ _).symm.trans H; with_reducible exact H2_) | with_reducible exact H | (rw [hy543]; exact H) | exact H
 have Ny543 := Aside0.mk hy543
 clear hy543
 replace H := Option.bind_eq_some_iff.mp H
 obtain ⟨t546, A40, H⟩ := H
 have A4 := Aside0.mk A40
 clear A40
 have H' := Aside0.mk H
 clear H
 go_enter Try.func55, Try.ntmps55
 go_wp2_with (first | ((with_reducible refine gate_dst (N := 4) rfl ?_); refine bx_ 4 #[.int .i64 a1_0, .int .i64 a1_1, .int .i64 a1_2] 28 ?_; intro gb541 hg w5 hbox hb; have BK541 := Aside0.mk (hbox); have GW541 := bs_ HB hg; have GE541 := bs_ HB hg; replace HB := bt_ HB hb; clear hb hbox hg) | ((with_reducible refine gate_dst (N := 5) rfl ?_); refine bx_ 5 #[.int .i64 a2_0, .int .i64 a2_1, .int .i64 a2_2] 28 ?_; intro gb542 hg w6 hbox hb; have BK542 := Aside0.mk (hbox); have GW542 := bs_ HB hg; have GE542 := bs_ HB hg; have NB541_542 := bm_ BK541 hg; have NB542_541 := bn_ BK541 hg; replace BK541 := bb_ BK541 hb; replace HB := bt_ HB hb; clear hb hbox hg) | ((with_reducible refine gate_dst (N := 10) rfl ?_); refine Kd.R_lit (Kd.int .u8) _ 5 ?hg (N := 10) ?hd (xs := ([] : List Int)) (inner := []) (ok := fun _ => True) (okp := fun _ => True) ?hr ?hp (fun _ hk => hk) trivial (Below.refl _ _) (Nat.le_refl _) (by simp) ?_; (case hd => rfl); (case hg => rfl); (case hr => first | (go_simp; done) | (go_simp; rfl)); (case hp => exact (Reps.none _ _)); intro v544 w7 ho8 hb hg_ hnew_; clear hg_ hnew_; (first | rw [← Ny543.out] at ho8 | (simp only [Int.reduceToNat] at ho8; rw [← Ny543.out] at ho8)); have HO545 := Aside0.mk (Kd.R_lower ho8 (below_size (bw_ HB).out)); replace BK541 := bb_ BK541 hb; replace BK542 := bb_ BK542 hb; replace HB := bt_ HB hb; clear hb ho8; have hnb9 := NB541_542.out; have hnc9 := NB542_541.out; have hcz10_0 : w7.cell? ⟨gb541, 0, none⟩ = some (.int .i64 a1_0) := (blk_cell BK541.out 0).trans rfl; have hcz10_1 : w7.cell? ⟨gb541, 1, none⟩ = some (.int .i64 a1_1) := (blk_cell BK541.out 1).trans rfl; have hcz10_2 : w7.cell? ⟨gb541, 2, none⟩ = some (.int .i64 a1_2) := (blk_cell BK541.out 2).trans rfl; have hfz10_0 := blk_frozen BK541.out 0; have hfz10_1 := blk_frozen BK541.out 1; have hfz10_2 := blk_frozen BK541.out 2; have hcz11_0 : w7.cell? ⟨gb542, 0, none⟩ = some (.int .i64 a2_0) := (blk_cell BK542.out 0).trans rfl; have hcz11_1 : w7.cell? ⟨gb542, 1, none⟩ = some (.int .i64 a2_1) := (blk_cell BK542.out 1).trans rfl; have hcz11_2 : w7.cell? ⟨gb542, 2, none⟩ = some (.int .i64 a2_2) := (blk_cell BK542.out 2).trans rfl; have hfz11_0 := blk_frozen BK542.out 0; have hfz11_1 := blk_frozen BK542.out 1; have hfz11_2 := blk_frozen BK542.out 2) | ((with_reducible refine gate_callee (f := 90) rfl ?_); refine goesL_ (some 14) rfl rfl Try.func90 (by kernel_rfl) rfl #[.int .i64 a0, .agg #[.int .i64 a1_0, .int .i64 a1_1, .int .i64 a1_2], .agg #[.int .i64 a2_0, .int .i64 a2_1, .int .i64 a2_2]] rfl (by (try simp only [List.map_toArray, List.map_cons, List.map_nil]); first | done | rfl | (simp only [List.length_drop, List.length_take]; rfl)) ?_; (with_reducible refine (impl_geodesic.calls k a0 a1_0 a1_1 a1_2 a2_0 a2_1 a2_2 t546 _ A4.out).mono ?_); rintro e w12 ⟨v547, rfl, ho0, hb⟩; refine ⟨_, rfl, ?_⟩; have HO548 := Aside0.mk (Kd.R_lower (Kd.R_newB (Kd.R_newB ho0 (g := gb541) (o := .cells #[.int .i64 a1_0, .int .i64 a1_1, .int .i64 a1_2] 28 (0, 0)) (bl_ BK541).out) (g := gb542) (o := .cells #[.int .i64 a2_0, .int .i64 a2_1, .int .i64 a2_2] 28 (0, 0)) (bl_ BK542).out) (below_size (bw_ HB).out)); replace HO545 := Aside0.mk (Kd.R_below (by (with_reducible repeat (first | apply Kd.R_alloc | apply Kd.R_drewN | apply Kd.R_drew)); exact HO545.out) hb); replace BK541 := bb_ BK541 hb; replace BK542 := bb_ BK542 hb; replace HB := bt_ HB hb; (try clear hb); (try clear hb2); (try clear hk); (try clear hi); (try clear ho0)))
 go_loopg [7, 9] k (fun kq v7 v9 w' => ∃ (x7_1 : List Int) (x9_1 : Int), v9 = .int .i64 x9_1 ∧ Aside0 (impl_wayWord.l0 kq a0 x7_1 t546 x9_1 = some r) ∧ Aside0 (kq ≤ k) ∧ Aside0 (Kd.R (Kd.int .u8) 5 w' w.heap.size (fun _ => True) v7 x7_1) ∧ Aside0 (Kd.R k28 28 w' w.heap.size (fun k_ => k_ ≠ gb541 ∧ k_ ≠ gb542) v547 t546) ∧ Aside0 (w'.heap[gb541]? = some (.cells #[.int .i64 a1_0, .int .i64 a1_1, .int .i64 a1_2] 28 (0, 0))) ∧ Aside0 (w'.heap[gb542]? = some (.cells #[.int .i64 a2_0, .int .i64 a2_1, .int .i64 a2_2] 28 (0, 0))) ∧ Aside0 (Below w.heap.size w w'))
 case atStart => exact ⟨(y543), (1), (by first | rfl | (simp; done) | (simp [*]; done) | (simp [wrap64]; done)), H', ⟨Nat.le_refl _⟩, ⟨by (with_reducible repeat (first | apply Kd.R_alloc | apply Kd.R_drewN | apply Kd.R_drew)); exact HO545.out⟩, ⟨by (with_reducible repeat (first | apply Kd.R_alloc | apply Kd.R_drewN | apply Kd.R_drew)); exact Kd.R_mono HO548.out (fun _ hk => ⟨hk.1.2, hk.2⟩)⟩, bl_ BK541, bl_ BK542, bw_ HB⟩
 case round =>
  clear H'
  try clear p2
  try clear c5
  try clear c9
  try clear hcz10_0
  try clear hcz10_1
  try clear hcz10_2
  try clear hcz11_0
  try clear hcz11_1
  try clear hcz11_2
  try clear hfz10_0
  try clear hfz10_1
  try clear hfz10_2
  try clear hfz11_0
  try clear hfz11_1
  try clear hfz11_2
  obtain ⟨x7_1, x9_1, rfl, HA, HK1, HO_7, HO_8, BK541, BK542, HB⟩ := hrel
  cases gk with
  | zero => exact absurd HA.out (by simp [impl_wayWord.l0])
  | succ k1 =>
   have H := HA.out
   clear HA
   simp only [impl_wayWord.l0] at H
   by_cases c13 : x9_1 < (t546.length : Int)
   ·rw [if_pos c13] at H
    have c13b0 : decide (x9_1 < (t546.length : Int)) = true := decide_eq_true c13
    clear c13
    obtain ⟨ji14, hji14⟩ : ∃ j_ : Int, (wrap64 (x9_1 - 1)) = j_ := ⟨_, rfl⟩
    replace H : (if 0 ≤ (ji14) then (if (ji14) < (t546.length : Int) then (if 0 ≤ x9_1 then ((impl_letterTo.f k1 a0 ((rd_T28 t546 (ji14)).f0) ((rd_T28 t546 (ji14)).f1) ((rd_T28 t546 (ji14)).f2) ((rd_T28 t546 x9_1).f0) ((rd_T28 t546 x9_1).f1) ((rd_T28 t546 x9_1).f2)).bind fun t551 => (if x7_1.length < 140737488355328 then (impl_wayWord.l0 k1 a0 (x7_1 ++ [t551]) t546 (wrap64 (x9_1 + 1))) else (none))) else (none)) else (none)) else (none)) = some r := by first | (rw [hji14] at H; exact H) | (simp only [hji14] at H ⊢; exact H)
    have hji14w : (IntKind.i64.wrap (x9_1 - 1)) = ji14 := (i64_w _).trans hji14
    by_cases c15 : 0 ≤ (ji14)
    ·rw [if_pos c15] at H
     have c15b0 : decide (0 ≤ (ji14)) = true := decide_eq_true c15
     clear c15
     by_cases c16 : (ji14) < (t546.length : Int)
     ·rw [if_pos c16] at H
      have c16b0 : decide ((ji14) < (t546.length : Int)) = true := decide_eq_true c16
      clear c16
      by_cases c17 : 0 ≤ x9_1
      ·rw [if_pos c17] at H
       have c17b0 : decide (0 ≤ x9_1) = true := decide_eq_true c17
       clear c17
       replace H := Option.bind_eq_some_iff.mp H
       obtain ⟨t551, A180, H⟩ := H
       have A18 := Aside0.mk A180
       clear A180
       by_cases c19 : x7_1.length < 140737488355328
       ·rw [if_pos c19] at H
        have LMc19 := Aside0.mk c19
        clear c19
        obtain ⟨y552, hy552⟩ : ∃ y_ : List Int, y_ = (x7_1 ++ [t551]) := ⟨_, rfl⟩
        replace H : (impl_wayWord.l0 k1 a0 y552 t546 (wrap64 (x9_1 + 1))) = some r := by first | (rw [hy552]; with_reducible exact H) | (have H2_ := (Option.bind_some _ _).symm.trans H; rw [hy552]; with_reducible exact H2_) | (have H2_ := (Option.bind_some _ _).symm.trans H; with_reducible exact H2_) | with_reducible exact H | (rw [hy552]; exact H) | exact H
        have Ny552 := Aside0.mk hy552
        clear hy552
        have H' := Aside0.mk H
        clear H
        obtain ⟨Ao20, co20, eo20⟩ := Kd.R_slice HO_8.out
        subst eo20
        try go_wp2
        replace HO_7 := Aside0.mk (Kd.R_drew HO_7.out)
        replace HO_8 := Aside0.mk (Kd.R_drew HO_8.out)
        replace BK541 := Aside0.mk (blk_drew BK541.out)
        replace BK542 := Aside0.mk (blk_drew BK542.out)
        replace HB := Aside0.mk (below_drew1 HB.out)
        have p549 : 0 ≤ ((ji14) : Int) := of_decide_eq_true (by first | (with_reducible assumption) | assumption)
        have q549 : (ji14) < (t546.length : Int) := of_decide_eq_true (by first | (with_reducible assumption) | assumption)
        obtain ⟨ad549, e549, hx549_0, hx549_1, hx549_2⟩ := at_T28 (Kd.R_reads' HO_8.out).2.2 (ji14) p549 q549
        cases e549
        replace p549 := eq_true p549
        replace q549 := eq_true q549
        have p550 : 0 ≤ (x9_1 : Int) := of_decide_eq_true (by first | (with_reducible assumption) | assumption)
        have q550 : x9_1 < (t546.length : Int) := of_decide_eq_true (by first | (with_reducible assumption) | assumption)
        obtain ⟨ad550, e550, hx550_0, hx550_1, hx550_2⟩ := at_T28 (Kd.R_reads' HO_8.out).2.2 x9_1 p550 q550
        obtain rfl : ad549 = ad550 := (by injection e550)
        replace p550 := eq_true p550
        replace q550 := eq_true q550
        refine start_ (n := 15) (S := fun w' => w'.cell? (ad549.add (((ji14)).toNat * 3)) = some (.int .i64 ((rd_T28 t546 (ji14)).f0)) ∧ w'.cell? ⟨(ad549.add (((ji14)).toNat * 3)).block, (ad549.add (((ji14)).toNat * 3)).off + 1, none⟩ = some (.int .i64 ((rd_T28 t546 (ji14)).f1)) ∧ w'.cell? ⟨(ad549.add (((ji14)).toNat * 3)).block, (ad549.add (((ji14)).toNat * 3)).off + 2, none⟩ = some (.int .i64 ((rd_T28 t546 (ji14)).f2)) ∧ w'.cell? (ad549.add ((x9_1).toNat * 3)) = some (.int .i64 ((rd_T28 t546 x9_1).f0)) ∧ w'.cell? ⟨(ad549.add ((x9_1).toNat * 3)).block, (ad549.add ((x9_1).toNat * 3)).off + 1, none⟩ = some (.int .i64 ((rd_T28 t546 x9_1).f1)) ∧ w'.cell? ⟨(ad549.add ((x9_1).toNat * 3)).block, (ad549.add ((x9_1).toNat * 3)).off + 2, none⟩ = some (.int .i64 ((rd_T28 t546 x9_1).f2))) (ds := [12, 13]) #[false, false, false, false, false, false, false, false, false, false, false, false, false, false, false] (by kernel_rfl) rfl rfl ⟨hx549_0, hx549_1, hx549_2, hx550_0, hx550_1, hx550_2⟩ (fun hHeld => ?_); refine with_tabW impl_wayWord.tab5 impl_wayWord.bits5 (fun HT_ HW_ => ?_)
        generalize wr.drew = w21 at HO_7 HO_8 BK541 BK542 HB hx549_0 hx549_1 hx549_2 hx550_0 hx550_1 hx550_2 hHeld ⊢
        refine pu_ HT_ 0 (some 21) #[true, false, false, false, false, false, false, false, false, false, false, false, false, false, false] ?_
        refine pu_ HT_ 1 (some 22) #[true, true, false, false, false, false, false, false, false, false, false, false, false, false, false] ?_
        refine pu_ HT_ 2 (some 23) #[true, true, true, false, false, false, false, false, false, false, false, false, false, false, false] ?_
        refine pu_ HT_ 3 (some 24) #[true, true, true, true, false, false, false, false, false, false, false, false, false, false, false] ?_
        refine pu_ HT_ 4 (some 25) #[true, true, true, true, true, false, false, false, false, false, false, false, false, false, false] ?_
        refine pu_ HT_ 5 (some 26) #[true, true, true, true, true, true, false, false, false, false, false, false, false, false, false] ?_
        refine pu_ HT_ 7 (some 28) #[true, true, true, true, true, true, false, true, false, false, false, false, false, false, false] ?_
        refine pu_ HT_ 8 (some 29) #[true, true, true, true, true, true, false, true, true, false, false, false, false, false, false] ?_
        refine pu_ HT_ 9 (some 30) #[true, true, true, true, true, true, false, true, true, true, false, false, false, false, false] ?_
        refine ta_ HT_ HW_ 6 (some 27) #[true, true, true, true, true, true, true, true, true, true, false, false, false, false, false] hHeld ?_ (hy := by rintro w' ⟨s0, s1, s2, s3, s4, s5⟩; go_simp; with_reducible rfl)
        refine ta_ HT_ HW_ 10 (some 31) #[true, true, true, true, true, true, true, true, true, true, true, false, false, false, false] hHeld ?_ (hy := by rintro w' ⟨s0, s1, s2, s3, s4, s5⟩; go_simp; with_reducible rfl)
        refine one_ (i := 11) (N := some 32) #[true, true, true, true, true, true, true, true, true, true, true, true, false, false, false] rfl rfl (one_of HT_.out (by kernel_rfl)) (by decide) (fun K hK => ?_)
        refine goes_ Try.func91 (by kernel_rfl) rfl #[.int .i64 a0, .agg #[.int .i64 ((rd_T28 t546 (ji14)).f0), .int .i64 ((rd_T28 t546 (ji14)).f1), .int .i64 ((rd_T28 t546 (ji14)).f2)], .agg #[.int .i64 ((rd_T28 t546 x9_1).f0), .int .i64 ((rd_T28 t546 x9_1).f1), .int .i64 ((rd_T28 t546 x9_1).f2)]] (by rfl) rfl rfl (by (try simp only [List.map_toArray, List.map_cons, List.map_nil]); first | done | (simp only [hji14]; rfl) | rfl | (simp only [List.length_drop, List.length_take]; rfl)) ?_
        with_reducible refine (impl_letterTo.calls k1 a0 ((rd_T28 t546 (ji14)).f0) ((rd_T28 t546 (ji14)).f1) ((rd_T28 t546 (ji14)).f2) ((rd_T28 t546 x9_1).f0) ((rd_T28 t546 x9_1).f1) ((rd_T28 t546 x9_1).f2) t551 _ A18.out).mono ?_
        rintro e w22 ⟨rfl, hb⟩
        have HS0_ := (hb.cell (World.block_lt_of_cell? _ _ (hHeld.1))).trans (hHeld.1)
        have HS1_ := (hb.cell (World.block_lt_of_cell? _ _ (hHeld.2.1))).trans (hHeld.2.1)
        have HS2_ := (hb.cell (World.block_lt_of_cell? _ _ (hHeld.2.2.1))).trans (hHeld.2.2.1)
        have HS3_ := (hb.cell (World.block_lt_of_cell? _ _ (hHeld.2.2.2.1))).trans (hHeld.2.2.2.1)
        have HS4_ := (hb.cell (World.block_lt_of_cell? _ _ (hHeld.2.2.2.2.1))).trans (hHeld.2.2.2.2.1)
        have HS5_ := (hb.cell (World.block_lt_of_cell? _ _ (hHeld.2.2.2.2.2))).trans (hHeld.2.2.2.2.2)
        refine ⟨_, rfl, ?_⟩
        replace HO_7 := Aside0.mk (Kd.R_below (by (with_reducible repeat (first | apply Kd.R_alloc | apply Kd.R_drewN | apply Kd.R_drew)); exact HO_7.out) hb)
        replace HO_8 := Aside0.mk (Kd.R_below (by (with_reducible repeat (first | apply Kd.R_alloc | apply Kd.R_drewN | apply Kd.R_drew)); exact HO_8.out) hb)
        replace BK541 := bb_ BK541 hb
        replace BK542 := bb_ BK542 hb
        replace HB := bt_ HB hb
        (try clear hb)
        (try clear hb2)
        (try clear hk)
        (try clear hi)
        refine hK.out _ _ ⟨HS0_, HS1_, HS2_, HS3_, HS4_, HS5_⟩ (fun hHeld => ?_)
        clear hK K
        refine norm_ (a' := ?_) ?_ ?_
        rotate_left
        ·show Act.put _ (some 32) _ = _
         simp only [Act.put, lstS, lstZ, lstC, i64_w, i32_w]
         rfl
        refine last_ (i := 12) (N := some 33) #[true, true, true, true, true, true, true, true, true, true, true, true, true, false, false] rfl rfl (one_of HT_.out (by kernel_rfl)) (by decide) (fun K hK => ?_)
        refine value_ (w1 := ?_) (v := ?_) (by rfl) rfl ?_ ?_
        rotate_left 2
        ·go_simp
         constructor
         ·rfl
         ·rfl
        refine hK.out _ _ ?_
        clear hK K
        refine norm_ (a' := ?_) ?_ ?_
        rotate_left
        ·show Act.put _ (some 33) _ = _
         simp only [Act.put, lstS, lstZ, lstC, i64_w, i32_w]
         rfl
        refine last_ (i := 13) (N := some 34) #[true, true, true, true, true, true, true, true, true, true, true, true, true, true, false] rfl rfl (one_of HT_.out (by kernel_rfl)) (by decide) (fun K hK => ?_)
        refine Kd.R_append_step (Kd.int .u8) (w0 := w) w.heap.size (by rfl) (.tmp 21) (.tmp 33) 100 5 (.int .u8 0) 1 rfl Try.underlying100 info5 rfl (by decide) (by omega) u7 x7_1 t551 [.int .u8 t551] (fun _ => True) (fun _ => False) rfl rfl ?aP (fun _ hk => hk.elim) ?aF ?aO ?aB ?aS ?aL ?_
        (case aP => exact rfl)
        (case aB => exact (bw_ HB).out)
        (case aF => exact (fun _ _ => trivial))
        (case aO => exact (by (with_reducible repeat (first | apply Kd.R_alloc | apply Kd.R_drewN | apply Kd.R_drew)); exact HO_7.out))
        (case aS => exact (below_size (bw_ HB).out))
        (case aL => have := LMc19.out; omega)
        intro v553 w23 ho hb hg hat
        rw [← Ny552.out] at ho
        have n0_ := Aside0.mk (Kd.R_over' (by (with_reducible repeat (first | apply Kd.R_alloc | apply Kd.R_drewN | apply Kd.R_drew)); exact HO_8.out) (Kd.R_typed (by (with_reducible repeat (first | apply Kd.R_alloc | apply Kd.R_drewN | apply Kd.R_drew)); exact HO_7.out)) (by decide) hg)
        have n1_ := Aside0.mk (blk_grown (g := gb541) (o := .cells #[.int .i64 a1_0, .int .i64 a1_1, .int .i64 a1_2] 28 (0, 0)) (bl_ BK541).out hg (Kd.R_ne HO_7.out BK541.out (by decide)))
        have n2_ := Aside0.mk (blk_grown (g := gb542) (o := .cells #[.int .i64 a2_0, .int .i64 a2_1, .int .i64 a2_2] 28 (0, 0)) (bl_ BK542).out hg (Kd.R_ne HO_7.out BK542.out (by decide)))
        have n3_ := Aside0.mk (hb)
        have n4_ := Aside0.mk (ho)
        clear HO_8
        clear BK541
        clear BK542
        clear HB
        clear HO_7
        have HO_8 := n0_
        have BK541 := n1_
        have BK542 := n2_
        have HB := n3_
        have HO554 := n4_
        clear n0_ n1_ n2_ n3_ n4_
        clear ho hb hg hat
        refine hK.out _ _ ?_
        clear hK K
        refine norm_ (a' := ?_) ?_ ?_
        rotate_left
        ·show Act.put _ (some 34) _ = _
         simp only [Act.put, lstS, lstZ, lstC, i64_w, i32_w]
         rfl
        refine pu_ HT_ 14 (some 7) #[true, true, true, true, true, true, true, true, true, true, true, true, true, true, true] ?_
        refine done_ (done_of HT_.out (by kernel_rfl)) ?_
        try go_wp2
        go_roundg k1
        case measure => have := HK1.out; omega
        case rel => exact ⟨(y552), (wrap64 (x9_1 + 1)), (by first | rfl | (simp; done) | (simp [*]; done) | (simp [wrap64]; done)), H', ⟨by have := HK1.out; omega⟩, ⟨by (with_reducible repeat (first | apply Kd.R_alloc | apply Kd.R_drewN | apply Kd.R_drew)); exact HO554.out⟩, ⟨by (with_reducible repeat (first | apply Kd.R_alloc | apply Kd.R_drewN | apply Kd.R_drew)); exact HO_8.out⟩, bl_ BK541, bl_ BK542, bw_ HB⟩
       ·rw [if_neg c19] at H
        exact absurd H (by simp)
      ·rw [if_neg c17] at H
       exact absurd H (by simp)
     ·rw [if_neg c16] at H
      exact absurd H (by simp)
    ·rw [if_neg c15] at H
     exact absurd H (by simp)
   ·rw [if_neg c13] at H
    have c13b0 : decide (x9_1 < (t546.length : Int)) = false := decide_eq_false c13
    clear c13
    obtain rfl := Option.some.inj H
    obtain ⟨Ao24, co24, eo24⟩ := Kd.R_slice HO_8.out
    subst eo24
    have hcv25 := own_string (P := Try.prog) Try.underlying100 Try.underlying5 Try.underlying9 (Kd.own_of_R HO_7.out)
    go_wp2
    go_ret
    exact ⟨by first | rfl | (simp [errW_none, errW_some] <;> rfl) | (simp [*, errW_none, errW_some] <;> rfl), by repeat (first | (with_reducible first | exact HB.out | apply below_alloc | apply pw_below_drewN | apply below_drew1 | refine below_set ?_ GE541.out | refine below_set ?_ GE542.out) | exact HB.out)⟩
/-! ### impl_StepsOfMatrix: function 20 -/
def impl_StepsOfMatrix.f (k : Nat) (a0 : Int) (a1_0 : Int) (a1_1 : Int) (a1_2 : Int) (a1_3 : Int) : Option (ByteArray × Int) := (impl_partCode.f k a0 a1_0 a1_1 a1_2 a1_3).bind fun t556 => (if t556 = 0 then ((impl_triangular.f k a0 a1_0 a1_1 a1_2 a1_3).bind fun bt557 => (if bt557.2.2.2.2 = true then ((impl_moveBall.f k a0 a1_0 a1_1 a1_2 a1_3 0 0 0).bind fun bt563 => ((impl_wayWord.f k a0 0 0 0 bt563.1 bt563.2.1 bt563.2.2.1).bind fun t568 => (some (t568, 0)))) else (some ((⟨#[]⟩ : ByteArray), 3)))) else (some ((⟨#[]⟩ : ByteArray), t556)))
set_option maxHeartbeats 8000000 in
set_option maxRecDepth 100000 in
theorem impl_StepsOfMatrix.calls (k : Nat) (a0 : Int) (a1_0 : Int) (a1_1 : Int) (a1_2 : Int) (a1_3 : Int) (r1 : ByteArray) (r2 : Int) (w : World) (h : impl_StepsOfMatrix.f k a0 a1_0 a1_1 a1_2 a1_3 = some (r1, r2)) :
  Calls Try.prog 20 #[.int .i64 a0, .agg #[.int .i64 a1_0, .int .i64 a1_1, .int .i64 a1_2, .int .i64 a1_3]] w fun e w' => e = .returned (.tuple #[.string r1, .int .i64 r2]) ∧ Below w.heap.size w w' := by
 have hu33 := Try.underlying33
 have hu28 := Try.underlying28
 have HB := Aside0.mk (Below.refl w.heap.size w)
 have H : ((impl_partCode.f k a0 a1_0 a1_1 a1_2 a1_3).bind fun t556 => (if t556 = 0 then ((impl_triangular.f k a0 a1_0 a1_1 a1_2 a1_3).bind fun bt557 => (if bt557.2.2.2.2 = true then ((impl_moveBall.f k a0 a1_0 a1_1 a1_2 a1_3 0 0 0).bind fun bt563 => ((impl_wayWord.f k a0 0 0 0 bt563.1 bt563.2.1 bt563.2.2.1).bind fun t568 => (some (t568, 0)))) else (some ((⟨#[]⟩ : ByteArray), 3)))) else (some ((⟨#[]⟩ : ByteArray), t556)))) = some (r1, r2) := h
 clear h
 replace H := Option.bind_eq_some_iff.mp H
 obtain ⟨t556, A30, H⟩ := H
 have A3 := Aside0.mk A30
 clear A30
 by_cases c4 : t556 = 0
 ·rw [if_pos c4] at H
  have c4b0 : (t556 == 0) = true := beq_iff_eq.mpr c4
  have c4b1 : (t556 != 0) = false := bne_eq_false_iff_eq.mpr c4
  clear c4
  replace H := Option.bind_eq_some_iff.mp H
  obtain ⟨⟨t557, t558, t559, t560, t561⟩, A50, H⟩ := H
  have A5 := Aside0.mk A50
  clear A50
  by_cases c6 : t561 = true
  ·subst c6
   have H1 : ((impl_moveBall.f k a0 a1_0 a1_1 a1_2 a1_3 0 0 0).bind fun bt563 => ((impl_wayWord.f k a0 0 0 0 bt563.1 bt563.2.1 bt563.2.2.1).bind fun t568 => (some (t568, 0)))) = some (r1, r2) := by rw [if_pos rfl] at H; exact H
   clear H
   have H := H1
   clear H1
   replace H := Option.bind_eq_some_iff.mp H
   obtain ⟨⟨t563, t564, t565, t566⟩, A70, H⟩ := H
   have A7 := Aside0.mk A70
   clear A70
   replace H := Option.bind_eq_some_iff.mp H
   obtain ⟨t568, A80, H⟩ := H
   have A8 := Aside0.mk A80
   clear A80
   simp only [Option.some.injEq, Prod.mk.injEq] at H
   obtain ⟨rfl, rfl⟩ := H
   go_enter Try.func20, Try.ntmps20
   go_wp2_with (first | ((with_reducible refine gate_dst (N := 3) rfl ?_); refine bx_ 3 #[.int .i64 a1_0, .int .i64 a1_1, .int .i64 a1_2, .int .i64 a1_3] 33 ?_; intro gb555 hg w9 hbox hb; have BK555 := Aside0.mk (hbox); have GW555 := bs_ HB hg; have GE555 := bs_ HB hg; replace HB := bt_ HB hb; clear hb hbox hg; have hcz10_0 : w9.cell? ⟨gb555, 0, none⟩ = some (.int .i64 a1_0) := (blk_cell BK555.out 0).trans rfl; have hcz10_1 : w9.cell? ⟨gb555, 1, none⟩ = some (.int .i64 a1_1) := (blk_cell BK555.out 1).trans rfl; have hcz10_2 : w9.cell? ⟨gb555, 2, none⟩ = some (.int .i64 a1_2) := (blk_cell BK555.out 2).trans rfl; have hcz10_3 : w9.cell? ⟨gb555, 3, none⟩ = some (.int .i64 a1_3) := (blk_cell BK555.out 3).trans rfl; have hfz10_0 := blk_frozen BK555.out 0; have hfz10_1 := blk_frozen BK555.out 1; have hfz10_2 := blk_frozen BK555.out 2; have hfz10_3 := blk_frozen BK555.out 3) | ((with_reducible refine gate_callee (f := 44) rfl ?_); refine goesL_ (some 13) rfl rfl Try.func44 (by kernel_rfl) rfl #[.int .i64 a0, .agg #[.int .i64 a1_0, .int .i64 a1_1, .int .i64 a1_2, .int .i64 a1_3]] rfl (by (try simp only [List.map_toArray, List.map_cons, List.map_nil]); first | done | rfl | (simp only [List.length_drop, List.length_take]; rfl)) ?_; (with_reducible refine (impl_partCode.calls k a0 a1_0 a1_1 a1_2 a1_3 t556 _ A3.out).mono ?_); rintro e w11 ⟨rfl, hb⟩; refine ⟨_, rfl, ?_⟩; replace BK555 := bb_ BK555 hb; replace HB := bt_ HB hb; (try clear hb); (try clear hb2); (try clear hk); (try clear hi); have hcz12_0 : w11.cell? ⟨gb555, 0, none⟩ = some (.int .i64 a1_0) := (blk_cell BK555.out 0).trans rfl; have hcz12_1 : w11.cell? ⟨gb555, 1, none⟩ = some (.int .i64 a1_1) := (blk_cell BK555.out 1).trans rfl; have hcz12_2 : w11.cell? ⟨gb555, 2, none⟩ = some (.int .i64 a1_2) := (blk_cell BK555.out 2).trans rfl; have hcz12_3 : w11.cell? ⟨gb555, 3, none⟩ = some (.int .i64 a1_3) := (blk_cell BK555.out 3).trans rfl; have hfz12_0 := blk_frozen BK555.out 0; have hfz12_1 := blk_frozen BK555.out 1; have hfz12_2 := blk_frozen BK555.out 2; have hfz12_3 := blk_frozen BK555.out 3) | ((with_reducible refine gate_callee (f := 46) rfl ?_); refine goesL_ (some 20) rfl rfl Try.func46 (by kernel_rfl) rfl #[.int .i64 a0, .agg #[.int .i64 a1_0, .int .i64 a1_1, .int .i64 a1_2, .int .i64 a1_3]] rfl (by (try simp only [List.map_toArray, List.map_cons, List.map_nil]); first | done | rfl | (simp only [List.length_drop, List.length_take]; rfl)) ?_; (with_reducible refine (impl_triangular.calls k a0 a1_0 a1_1 a1_2 a1_3 t557 t558 t559 t560 true _ A5.out).mono ?_); rintro e w13 ⟨rfl, hb⟩; refine ⟨_, rfl, ?_⟩; replace BK555 := bb_ BK555 hb; replace HB := bt_ HB hb; (try clear hb); (try clear hb2); (try clear hk); (try clear hi)) | ((with_reducible refine gate_dst (N := 7) rfl ?_); refine bx_ 7 #[.int .i64 0, .int .i64 0, .int .i64 0, .int .i64 0] 33 ?_; intro gb562 hg w14 hbox hb; have BK562 := Aside0.mk (hbox); have GW562 := bs_ HB hg; have GE562 := bs_ HB hg; have NB555_562 := bm_ BK555 hg; have NB562_555 := bn_ BK555 hg; replace BK555 := bb_ BK555 hb; replace HB := bt_ HB hb; clear hb hbox hg; have hnb15 := NB562_555.out; have hnc15 := NB555_562.out; have hcz16_0 : w14.cell? ⟨gb562, 0, none⟩ = some (.int .i64 0) := (blk_cell BK562.out 0).trans rfl; have hcz16_1 : w14.cell? ⟨gb562, 1, none⟩ = some (.int .i64 0) := (blk_cell BK562.out 1).trans rfl; have hcz16_2 : w14.cell? ⟨gb562, 2, none⟩ = some (.int .i64 0) := (blk_cell BK562.out 2).trans rfl; have hcz16_3 : w14.cell? ⟨gb562, 3, none⟩ = some (.int .i64 0) := (blk_cell BK562.out 3).trans rfl; have hfz16_0 := blk_frozen BK562.out 0; have hfz16_1 := blk_frozen BK562.out 1; have hfz16_2 := blk_frozen BK562.out 2; have hfz16_3 := blk_frozen BK562.out 3; have hcz17_0 : w14.cell? ⟨gb555, 0, none⟩ = some (.int .i64 a1_0) := (blk_cell BK555.out 0).trans rfl; have hcz17_1 : w14.cell? ⟨gb555, 1, none⟩ = some (.int .i64 a1_1) := (blk_cell BK555.out 1).trans rfl; have hcz17_2 : w14.cell? ⟨gb555, 2, none⟩ = some (.int .i64 a1_2) := (blk_cell BK555.out 2).trans rfl; have hcz17_3 : w14.cell? ⟨gb555, 3, none⟩ = some (.int .i64 a1_3) := (blk_cell BK555.out 3).trans rfl; have hfz17_0 := blk_frozen BK555.out 0; have hfz17_1 := blk_frozen BK555.out 1; have hfz17_2 := blk_frozen BK555.out 2; have hfz17_3 := blk_frozen BK555.out 3) | ((with_reducible refine gate_callee (f := 54) rfl ?_); refine goesL_ (some 29) rfl rfl Try.func54 (by kernel_rfl) rfl #[.int .i64 a0, .agg #[.int .i64 a1_0, .int .i64 a1_1, .int .i64 a1_2, .int .i64 a1_3], .agg #[.int .i64 0, .int .i64 0, .int .i64 0]] rfl (by (try simp only [List.map_toArray, List.map_cons, List.map_nil]); first | done | rfl | (simp only [List.length_drop, List.length_take]; rfl)) ?_; (with_reducible refine (impl_moveBall.calls k a0 a1_0 a1_1 a1_2 a1_3 0 0 0 t563 t564 t565 t566 _ A7.out).mono ?_); rintro e w18 ⟨rfl, hb⟩; refine ⟨_, rfl, ?_⟩; replace BK555 := Aside0.mk (blk_below (g := gb555) (o := .cells #[.int .i64 a1_0, .int .i64 a1_1, .int .i64 a1_2, .int .i64 a1_3] 33 (0, 0)) (by (with_reducible repeat first | apply blk_drewN | apply blk_drew | apply blk_alloc); refine blk_far ?_ NB555_562.out _; (with_reducible repeat first | apply blk_drewN | apply blk_drew | apply blk_alloc); refine blk_far ?_ NB555_562.out _; (with_reducible repeat first | apply blk_drewN | apply blk_drew | apply blk_alloc); refine blk_far ?_ NB555_562.out _; (with_reducible repeat first | apply blk_drewN | apply blk_drew | apply blk_alloc); refine blk_far ?_ NB555_562.out _; (with_reducible repeat first | apply blk_drewN | apply blk_drew | apply blk_alloc); exact BK555.out) hb); replace BK562 := Aside0.mk (blk_below (g := gb562) (o := .cells #[.int .i64 t557, .int .i64 t558, .int .i64 t559, .int .i64 t560] 33 (0, 0)) (by (with_reducible repeat first | apply blk_drewN | apply blk_drew | apply blk_alloc); refine blk_put (cs := #[.int .i64 t557, .int .i64 t558, .int .i64 t559, .int .i64 0]) ?_ 3 _ rfl; (with_reducible repeat first | apply blk_drewN | apply blk_drew | apply blk_alloc); refine blk_put (cs := #[.int .i64 t557, .int .i64 t558, .int .i64 0, .int .i64 0]) ?_ 2 _ rfl; (with_reducible repeat first | apply blk_drewN | apply blk_drew | apply blk_alloc); refine blk_put (cs := #[.int .i64 t557, .int .i64 0, .int .i64 0, .int .i64 0]) ?_ 1 _ rfl; (with_reducible repeat first | apply blk_drewN | apply blk_drew | apply blk_alloc); refine blk_put (cs := #[.int .i64 0, .int .i64 0, .int .i64 0, .int .i64 0]) ?_ 0 _ rfl; (with_reducible repeat first | apply blk_drewN | apply blk_drew | apply blk_alloc); exact BK562.out) hb); replace HB := bt_ HB hb; (try clear hb); (try clear hb2); (try clear hk); (try clear hi)) | ((with_reducible refine gate_dst (N := 9) rfl ?_); refine bx_ 9 #[.int .i64 0, .int .i64 0, .int .i64 0] 28 ?_; intro gb567 hg w19 hbox hb; have BK567 := Aside0.mk (hbox); have GW567 := bs_ HB hg; have GE567 := bs_ HB hg; have NB555_567 := bm_ BK555 hg; have NB567_555 := bn_ BK555 hg; have NB562_567 := bm_ BK562 hg; have NB567_562 := bn_ BK562 hg; replace BK555 := bb_ BK555 hb; replace BK562 := bb_ BK562 hb; replace HB := bt_ HB hb; clear hb hbox hg; have hnb20 := NB567_555.out; have hnc20 := NB555_567.out; have hnb21 := NB567_562.out; have hnc21 := NB562_567.out; have hcz22_0 : w19.cell? ⟨gb567, 0, none⟩ = some (.int .i64 0) := (blk_cell BK567.out 0).trans rfl; have hcz22_1 : w19.cell? ⟨gb567, 1, none⟩ = some (.int .i64 0) := (blk_cell BK567.out 1).trans rfl; have hcz22_2 : w19.cell? ⟨gb567, 2, none⟩ = some (.int .i64 0) := (blk_cell BK567.out 2).trans rfl; have hfz22_0 := blk_frozen BK567.out 0; have hfz22_1 := blk_frozen BK567.out 1; have hfz22_2 := blk_frozen BK567.out 2) | ((with_reducible refine gate_callee (f := 55) rfl ?_); refine goesL_ (some 35) rfl rfl Try.func55 (by kernel_rfl) rfl #[.int .i64 a0, .agg #[.int .i64 0, .int .i64 0, .int .i64 0], .agg #[.int .i64 t563, .int .i64 t564, .int .i64 t565]] rfl (by (try simp only [List.map_toArray, List.map_cons, List.map_nil]); first | done | rfl | (simp only [List.length_drop, List.length_take]; rfl)) ?_; (with_reducible refine (impl_wayWord.calls k a0 0 0 0 t563 t564 t565 t568 _ A8.out).mono ?_); rintro e w23 ⟨rfl, hb⟩; refine ⟨_, rfl, ?_⟩; replace BK555 := Aside0.mk (blk_below (g := gb555) (o := .cells #[.int .i64 a1_0, .int .i64 a1_1, .int .i64 a1_2, .int .i64 a1_3] 33 (0, 0)) (by (with_reducible repeat first | apply blk_drewN | apply blk_drew | apply blk_alloc); refine blk_far ?_ NB555_567.out _; (with_reducible repeat first | apply blk_drewN | apply blk_drew | apply blk_alloc); refine blk_far ?_ NB555_567.out _; (with_reducible repeat first | apply blk_drewN | apply blk_drew | apply blk_alloc); refine blk_far ?_ NB555_567.out _; (with_reducible repeat first | apply blk_drewN | apply blk_drew | apply blk_alloc); exact BK555.out) hb); replace BK562 := Aside0.mk (blk_below (g := gb562) (o := .cells #[.int .i64 t557, .int .i64 t558, .int .i64 t559, .int .i64 t560] 33 (0, 0)) (by (with_reducible repeat first | apply blk_drewN | apply blk_drew | apply blk_alloc); refine blk_far ?_ NB562_567.out _; (with_reducible repeat first | apply blk_drewN | apply blk_drew | apply blk_alloc); refine blk_far ?_ NB562_567.out _; (with_reducible repeat first | apply blk_drewN | apply blk_drew | apply blk_alloc); refine blk_far ?_ NB562_567.out _; (with_reducible repeat first | apply blk_drewN | apply blk_drew | apply blk_alloc); exact BK562.out) hb); replace BK567 := Aside0.mk (blk_below (g := gb567) (o := .cells #[.int .i64 t563, .int .i64 t564, .int .i64 t565] 28 (0, 0)) (by (with_reducible repeat first | apply blk_drewN | apply blk_drew | apply blk_alloc); refine blk_put (cs := #[.int .i64 t563, .int .i64 t564, .int .i64 0]) ?_ 2 _ rfl; (with_reducible repeat first | apply blk_drewN | apply blk_drew | apply blk_alloc); refine blk_put (cs := #[.int .i64 t563, .int .i64 0, .int .i64 0]) ?_ 1 _ rfl; (with_reducible repeat first | apply blk_drewN | apply blk_drew | apply blk_alloc); refine blk_put (cs := #[.int .i64 0, .int .i64 0, .int .i64 0]) ?_ 0 _ rfl; (with_reducible repeat first | apply blk_drewN | apply blk_drew | apply blk_alloc); exact BK567.out) hb); replace HB := bt_ HB hb; (try clear hb); (try clear hb2); (try clear hk); (try clear hi)))
   go_ret2
   exact ⟨by first | rfl | (simp [errW_none, errW_some] <;> rfl) | (simp [*, errW_none, errW_some] <;> rfl), by repeat (first | (with_reducible first | exact HB.out | apply below_alloc | apply pw_below_drewN | apply below_drew1 | refine below_set ?_ GE555.out | refine below_set ?_ GE562.out | refine below_set ?_ GE567.out) | exact HB.out)⟩
  ·replace c6 := Bool.eq_false_iff.mpr c6
   subst c6
   have H1 : (some ((⟨#[]⟩ : ByteArray), 3)) = some (r1, r2) := by rw [if_neg (show ¬ (false = true) by decide)] at H; exact H
   clear H
   have H := H1
   clear H1
   simp only [Option.some.injEq, Prod.mk.injEq] at H
   obtain ⟨rfl, rfl⟩ := H
   go_enter Try.func20, Try.ntmps20
   go_wp2_with (first | ((with_reducible refine gate_dst (N := 3) rfl ?_); refine bx_ 3 #[.int .i64 a1_0, .int .i64 a1_1, .int .i64 a1_2, .int .i64 a1_3] 33 ?_; intro gb555 hg w24 hbox hb; have BK555 := Aside0.mk (hbox); have GW555 := bs_ HB hg; have GE555 := bs_ HB hg; replace HB := bt_ HB hb; clear hb hbox hg; have hcz25_0 : w24.cell? ⟨gb555, 0, none⟩ = some (.int .i64 a1_0) := (blk_cell BK555.out 0).trans rfl; have hcz25_1 : w24.cell? ⟨gb555, 1, none⟩ = some (.int .i64 a1_1) := (blk_cell BK555.out 1).trans rfl; have hcz25_2 : w24.cell? ⟨gb555, 2, none⟩ = some (.int .i64 a1_2) := (blk_cell BK555.out 2).trans rfl; have hcz25_3 : w24.cell? ⟨gb555, 3, none⟩ = some (.int .i64 a1_3) := (blk_cell BK555.out 3).trans rfl; have hfz25_0 := blk_frozen BK555.out 0; have hfz25_1 := blk_frozen BK555.out 1; have hfz25_2 := blk_frozen BK555.out 2; have hfz25_3 := blk_frozen BK555.out 3) | ((with_reducible refine gate_callee (f := 44) rfl ?_); refine goesL_ (some 13) rfl rfl Try.func44 (by kernel_rfl) rfl #[.int .i64 a0, .agg #[.int .i64 a1_0, .int .i64 a1_1, .int .i64 a1_2, .int .i64 a1_3]] rfl (by (try simp only [List.map_toArray, List.map_cons, List.map_nil]); first | done | rfl | (simp only [List.length_drop, List.length_take]; rfl)) ?_; (with_reducible refine (impl_partCode.calls k a0 a1_0 a1_1 a1_2 a1_3 t556 _ A3.out).mono ?_); rintro e w26 ⟨rfl, hb⟩; refine ⟨_, rfl, ?_⟩; replace BK555 := bb_ BK555 hb; replace HB := bt_ HB hb; (try clear hb); (try clear hb2); (try clear hk); (try clear hi); have hcz27_0 : w26.cell? ⟨gb555, 0, none⟩ = some (.int .i64 a1_0) := (blk_cell BK555.out 0).trans rfl; have hcz27_1 : w26.cell? ⟨gb555, 1, none⟩ = some (.int .i64 a1_1) := (blk_cell BK555.out 1).trans rfl; have hcz27_2 : w26.cell? ⟨gb555, 2, none⟩ = some (.int .i64 a1_2) := (blk_cell BK555.out 2).trans rfl; have hcz27_3 : w26.cell? ⟨gb555, 3, none⟩ = some (.int .i64 a1_3) := (blk_cell BK555.out 3).trans rfl; have hfz27_0 := blk_frozen BK555.out 0; have hfz27_1 := blk_frozen BK555.out 1; have hfz27_2 := blk_frozen BK555.out 2; have hfz27_3 := blk_frozen BK555.out 3) | ((with_reducible refine gate_callee (f := 46) rfl ?_); refine goesL_ (some 20) rfl rfl Try.func46 (by kernel_rfl) rfl #[.int .i64 a0, .agg #[.int .i64 a1_0, .int .i64 a1_1, .int .i64 a1_2, .int .i64 a1_3]] rfl (by (try simp only [List.map_toArray, List.map_cons, List.map_nil]); first | done | rfl | (simp only [List.length_drop, List.length_take]; rfl)) ?_; (with_reducible refine (impl_triangular.calls k a0 a1_0 a1_1 a1_2 a1_3 t557 t558 t559 t560 false _ A5.out).mono ?_); rintro e w28 ⟨rfl, hb⟩; refine ⟨_, rfl, ?_⟩; replace BK555 := bb_ BK555 hb; replace HB := bt_ HB hb; (try clear hb); (try clear hb2); (try clear hk); (try clear hi)) | ((with_reducible refine gate_dst (N := 7) rfl ?_); refine bx_ 7 #[.int .i64 0, .int .i64 0, .int .i64 0, .int .i64 0] 33 ?_; intro gb562 hg w29 hbox hb; have BK562 := Aside0.mk (hbox); have GW562 := bs_ HB hg; have GE562 := bs_ HB hg; have NB555_562 := bm_ BK555 hg; have NB562_555 := bn_ BK555 hg; replace BK555 := bb_ BK555 hb; replace HB := bt_ HB hb; clear hb hbox hg; have hnb30 := NB562_555.out; have hnc30 := NB555_562.out; have hcz31_0 : w29.cell? ⟨gb562, 0, none⟩ = some (.int .i64 0) := (blk_cell BK562.out 0).trans rfl; have hcz31_1 : w29.cell? ⟨gb562, 1, none⟩ = some (.int .i64 0) := (blk_cell BK562.out 1).trans rfl; have hcz31_2 : w29.cell? ⟨gb562, 2, none⟩ = some (.int .i64 0) := (blk_cell BK562.out 2).trans rfl; have hcz31_3 : w29.cell? ⟨gb562, 3, none⟩ = some (.int .i64 0) := (blk_cell BK562.out 3).trans rfl; have hfz31_0 := blk_frozen BK562.out 0; have hfz31_1 := blk_frozen BK562.out 1; have hfz31_2 := blk_frozen BK562.out 2; have hfz31_3 := blk_frozen BK562.out 3))
   go_ret2
   exact ⟨by first | rfl | (simp [errW_none, errW_some] <;> rfl) | (simp [*, errW_none, errW_some] <;> rfl), by repeat (first | (with_reducible first | exact HB.out | apply below_alloc | apply pw_below_drewN | apply below_drew1 | refine below_set ?_ GE555.out | refine below_set ?_ GE562.out) | exact HB.out)⟩
 ·rw [if_neg c4] at H
  have c4b0 : (t556 == 0) = false := beq_eq_false_iff_ne.mpr c4
  have c4b1 : (t556 != 0) = true := bne_iff_ne.mpr c4
  simp only [Option.some.injEq, Prod.mk.injEq] at H
  obtain ⟨rfl, rfl⟩ := H
  go_enter Try.func20, Try.ntmps20
  go_wp2_with (first | ((with_reducible refine gate_dst (N := 3) rfl ?_); refine bx_ 3 #[.int .i64 a1_0, .int .i64 a1_1, .int .i64 a1_2, .int .i64 a1_3] 33 ?_; intro gb555 hg w32 hbox hb; have BK555 := Aside0.mk (hbox); have GW555 := bs_ HB hg; have GE555 := bs_ HB hg; replace HB := bt_ HB hb; clear hb hbox hg; have hcz33_0 : w32.cell? ⟨gb555, 0, none⟩ = some (.int .i64 a1_0) := (blk_cell BK555.out 0).trans rfl; have hcz33_1 : w32.cell? ⟨gb555, 1, none⟩ = some (.int .i64 a1_1) := (blk_cell BK555.out 1).trans rfl; have hcz33_2 : w32.cell? ⟨gb555, 2, none⟩ = some (.int .i64 a1_2) := (blk_cell BK555.out 2).trans rfl; have hcz33_3 : w32.cell? ⟨gb555, 3, none⟩ = some (.int .i64 a1_3) := (blk_cell BK555.out 3).trans rfl; have hfz33_0 := blk_frozen BK555.out 0; have hfz33_1 := blk_frozen BK555.out 1; have hfz33_2 := blk_frozen BK555.out 2; have hfz33_3 := blk_frozen BK555.out 3) | ((with_reducible refine gate_callee (f := 44) rfl ?_); refine goesL_ (some 13) rfl rfl Try.func44 (by kernel_rfl) rfl #[.int .i64 a0, .agg #[.int .i64 a1_0, .int .i64 a1_1, .int .i64 a1_2, .int .i64 a1_3]] rfl (by (try simp only [List.map_toArray, List.map_cons, List.map_nil]); first | done | rfl | (simp only [List.length_drop, List.length_take]; rfl)) ?_; (with_reducible refine (impl_partCode.calls k a0 a1_0 a1_1 a1_2 a1_3 t556 _ A3.out).mono ?_); rintro e w34 ⟨rfl, hb⟩; refine ⟨_, rfl, ?_⟩; replace BK555 := bb_ BK555 hb; replace HB := bt_ HB hb; (try clear hb); (try clear hb2); (try clear hk); (try clear hi)))
  go_ret2
  exact ⟨by first | rfl | (simp [errW_none, errW_some] <;> rfl) | (simp [*, errW_none, errW_some] <;> rfl), by repeat (first | (with_reducible first | exact HB.out | apply below_alloc | apply pw_below_drewN | apply below_drew1 | refine below_set ?_ GE555.out) | exact HB.out)⟩
end Go.Proofs.Ytojpcbbmbnmchaa.QC
